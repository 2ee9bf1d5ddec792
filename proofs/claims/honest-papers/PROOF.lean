import PyProof.Rows.All
import HandS.List
import Wide.All
import OpenK.AllK
import Wide.FinOn
import KE.KStateDown
import Lean
import HandS.Base
import HandS.Call
import HandS.Comp
import HandS.Ends
import HandS.Dict
import HandS.Iter
import HandS.Text
import HandS.More
import HandS.Words
import HandS.WordsList
import HandS.WordsDict
import HandS.WordsExc
import HandS.Walk
import HandS.Exc
import HandS.ExcOwn
import HandS.ExcInit
import HandS.TryOnly
import HandS.TryMany
import HandS.IsInst
import HandS.Deep
import HandS.ClsMeth
import HandS.SortOrd
import HandS.SortRule
import HandS.SortInts
import HandS.Set
import HandS.SetFor
import HandS.Strs
import HandS.Flow
import HandS.Wide
import HandS.TupMul
import HandS.Defaults
import HandS.Head0
import HandS.Head1
import HandS.Head2
import HandS.HeadEnd
import HandS.HeadHook1
import HandS.HeadHook2
import KE.GoesRaise
import HandS.ExcField
import PySem.Challenge.RW_papervault_k52_honest_papers_are_right
set_option Elab.async false
set_option linter.all false
set_option maxRecDepth 100000
/-! Things, their codes and numbers, their order; asks as trees of reads and lays; vaults as states. -/
namespace PV
open PySem

/-! ### things -/
inductive Th where
  | non
  | int (i : Int)
  | str (s : Str)
  | tup (l : List Th)
noncomputable instance thDec : DecidableEq Th := fun _ _ => Classical.propDecidable _

mutual
def Th.data : Th → PyData
  | .non => .none
  | .int i => .int i
  | .str s => .str s
  | .tup l => .tuple (Th.dataL l)
def Th.dataL : List Th → List PyData
  | [] => []
  | a :: r => a.data :: Th.dataL r
end
theorem dataL_map : ∀ l : List Th, Th.dataL l = l.map Th.data
  | [] => rfl
  | a :: r => by rw [Th.dataL, dataL_map r, List.map_cons]

mutual
theorem eqv_iff : ∀ a b : Th, PyData.eqv a.data b.data = true ↔ a = b
  | .non, .non => by simp [Th.data, PyData.eqv]
  | .non, .int _ => by simp [Th.data, PyData.eqv]
  | .non, .str _ => by simp [Th.data, PyData.eqv]
  | .non, .tup _ => by simp [Th.data, PyData.eqv]
  | .int _, .non => by simp [Th.data, PyData.eqv]
  | .int _, .int _ => by simp [Th.data, PyData.eqv]
  | .int _, .str _ => by simp [Th.data, PyData.eqv]
  | .int _, .tup _ => by simp [Th.data, PyData.eqv]
  | .str _, .non => by simp [Th.data, PyData.eqv]
  | .str _, .int _ => by simp [Th.data, PyData.eqv]
  | .str _, .str _ => by simp [Th.data, PyData.eqv]
  | .str _, .tup _ => by simp [Th.data, PyData.eqv]
  | .tup _, .non => by simp [Th.data, PyData.eqv]
  | .tup _, .int _ => by simp [Th.data, PyData.eqv]
  | .tup _, .str _ => by simp [Th.data, PyData.eqv]
  | .tup l, .tup m => by
    rw [Th.data, Th.data, PyData.eqv, eqvL_iff l m]
    exact ⟨fun h => by rw [h], fun h => Th.tup.inj h⟩
theorem eqvL_iff : ∀ l m : List Th, PyData.eqvAll (Th.dataL l) (Th.dataL m) = true ↔ l = m
  | [], [] => by simp [Th.dataL, PyData.eqvAll]
  | [], _ :: _ => by simp [Th.dataL, PyData.eqvAll]
  | _ :: _, [] => by simp [Th.dataL, PyData.eqvAll]
  | a :: l, b :: m => by
    rw [Th.dataL, Th.dataL, PyData.eqvAll, Bool.and_eq_true, eqv_iff a b, eqvL_iff l m]
    exact ⟨fun ⟨h1, h2⟩ => by rw [h1, h2], fun h => List.cons.inj h⟩
end
theorem eqv_dec (a b : Th) : PyData.eqv a.data b.data = decide (a = b) := by
  by_cases h : a = b
  · rw [decide_eq_true h, (eqv_iff a b).mpr h]
  · rw [decide_eq_false h]
    cases e : PyData.eqv a.data b.data with
    | false => rfl
    | true => exact absurd ((eqv_iff a b).mp e) h

/-! ### what may be laid -/
def mostNum : Int := 1000000000000000000000000000000
def okStr (s : Str) : Bool := decide (s.length ≤ 60) && s.cps.toList.all fun c => decide (32 ≤ c) && decide (c ≤ 126) && decide (c ≠ 37)
mutual
def Th.within : Nat → Th → Bool
  | _, .non => true
  | _, .int i => decide (-mostNum ≤ i) && decide (i ≤ mostNum)
  | _, .str s => okStr s
  | 0, .tup _ => false
  | d + 1, .tup l => decide (l.length ≤ 40) && Th.withinL d l
def Th.withinL : Nat → List Th → Bool
  | _, [] => true
  | d, a :: r => a.within d && Th.withinL d r
end
theorem withinL_mem {d : Nat} : ∀ {l : List Th}, Th.withinL d l = true → ∀ a ∈ l, a.within d = true
  | [], _, a, h => by simp at h
  | b :: r, e, a, h => by
    rw [Th.withinL, Bool.and_eq_true] at e
    rcases List.mem_cons.mp h with h | h
    · rw [h]; exact e.1
    · exact withinL_mem e.2 a h
theorem withinL_of {d : Nat} : ∀ {l : List Th}, (∀ a ∈ l, a.within d = true) → Th.withinL d l = true
  | [], _ => rfl
  | b :: r, h => by
    rw [Th.withinL, Bool.and_eq_true]
    exact ⟨h b List.mem_cons_self, withinL_of fun a m => h a (List.mem_cons_of_mem _ m)⟩
mutual
theorem within_mono : ∀ (d e : Nat) (a : Th), d ≤ e → a.within d = true → a.within e = true
  | _, _, .non, _, _ => by simp [Th.within]
  | _, _, .int _, _, h => by simpa [Th.within] using h
  | _, _, .str _, _, h => by simpa [Th.within] using h
  | 0, _, .tup _, _, h => by simp [Th.within] at h
  | _ + 1, 0, .tup _, hd, _ => by omega
  | d + 1, e + 1, .tup l, hd, h => by
    rw [Th.within, Bool.and_eq_true] at h ⊢
    exact ⟨h.1, withinL_mono d e l (by omega) h.2⟩
theorem withinL_mono : ∀ (d e : Nat) (l : List Th), d ≤ e → Th.withinL d l = true → Th.withinL e l = true
  | _, _, [], _, _ => by simp [Th.withinL]
  | d, e, a :: r, hd, h => by
    rw [Th.withinL, Bool.and_eq_true] at h ⊢
    exact ⟨within_mono d e a hd h.1, withinL_mono d e r hd h.2⟩
end
theorem strOk_of {s : Str} (h : okStr s = true) : PyData.strOk s = true := by
  unfold okStr at h
  rw [Bool.and_eq_true, List.all_eq_true] at h
  unfold PyData.strOk
  rw [← Array.all_toList, List.all_eq_true]
  intro c hc
  have q := h.2 c hc
  simp at q
  simp
  omega
mutual
theorem lay_of : ∀ (d : Nat) (a : Th), a.within d = true → a.data.canLay0 = true
  | _, .non, _ => by simp [Th.data, PyData.canLay0]
  | _, .int _, _ => by simp [Th.data, PyData.canLay0]
  | _, .str s, h => by
    rw [Th.data, PyData.canLay0]
    exact strOk_of (by simpa [Th.within] using h)
  | 0, .tup _, h => by simp [Th.within] at h
  | d + 1, .tup l, h => by
    rw [Th.within, Bool.and_eq_true] at h
    rw [Th.data, PyData.canLay0]
    exact layL_of d l h.2
theorem layL_of : ∀ (d : Nat) (l : List Th), Th.withinL d l = true → PyData.canLayAll0 (Th.dataL l) = true
  | _, [], _ => by simp [Th.dataL, PyData.canLayAll0]
  | d, a :: r, h => by
    rw [Th.withinL, Bool.and_eq_true] at h
    rw [Th.dataL, PyData.canLayAll0, Bool.and_eq_true]
    exact ⟨lay_of d a h.1, layL_of d r h.2⟩
end
mutual
theorem depth_of : ∀ (d : Nat) (a : Th), a.within d = true → a.data.depth ≤ d
  | _, .non, _ => by simp [Th.data, PyData.depth]
  | _, .int _, _ => by simp [Th.data, PyData.depth]
  | _, .str _, _ => by simp [Th.data, PyData.depth]
  | 0, .tup _, h => by simp [Th.within] at h
  | d + 1, .tup l, h => by
    rw [Th.within, Bool.and_eq_true] at h
    rw [Th.data, PyData.depth]
    exact Nat.succ_le_succ (depthL_of d l h.2)
theorem depthL_of : ∀ (d : Nat) (l : List Th), Th.withinL d l = true → PyData.depthAll (Th.dataL l) ≤ d
  | _, [], _ => by simp [Th.dataL, PyData.depthAll]
  | d, a :: r, h => by
    rw [Th.withinL, Bool.and_eq_true] at h
    rw [Th.dataL, PyData.depthAll]
    exact Nat.max_le.mpr ⟨depth_of d a h.1, depthL_of d r h.2⟩
end
theorem shaped_of {d : Nat} {a : Th} (hd : d ≤ 64) (h : a.within d = true) : SeqAt.shaped a.data = true := by
  show (a.data.canLay0 && decide (a.data.depth ≤ 64)) = true
  rw [Bool.and_eq_true]
  exact ⟨lay_of d a h, decide_eq_true (Nat.le_trans (depth_of d a h) hd)⟩

/-! ### numbers of things -/
def mostSeal : Int := 2305843009213693951
def base : Int := 1234567890123456789
def half : Int := 1000000000000000
def textCode (l : List Nat) : Int := l.foldl (fun (c : Int) (s : Nat) => 128 * c + (s : Int)) (0 : Int)
def textCodes (l : List Nat) : List Int := (List.range ((l.length + 6) / 7)).map fun k => textCode ((l.drop (7 * k)).take 7)
mutual
def Th.codes : Th → List Int
  | .non => [1]
  | .int i => [2, (i + mostNum) / half, (i + mostNum) % half]
  | .str s => [3, (s.length : Int)] ++ textCodes s.cps.toList
  | .tup l => [4, (l.length : Int)] ++ Th.codesL l
def Th.codesL : List Th → List Int
  | [] => []
  | a :: r => a.codes ++ Th.codesL r
end
def sealStep (h c : Int) : Int := (h * base + c) % mostSeal
def sealRun (l : List Int) : Int := l.foldl sealStep 7
def sealOf (t : Th) : Int := sealRun t.codes + 1
theorem sealStep_range (h c : Int) : 0 ≤ sealStep h c ∧ sealStep h c < mostSeal := by
  unfold sealStep
  have h0 : (0 : Int) < mostSeal := by decide
  exact ⟨Int.emod_nonneg _ (by decide), Int.emod_lt_of_pos _ h0⟩
theorem sealRun_range : ∀ (l : List Int) (a : Int), (0 ≤ a ∧ a < mostSeal) → 0 ≤ l.foldl sealStep a ∧ l.foldl sealStep a < mostSeal
  | [], a, h => h
  | c :: r, a, h => sealRun_range r _ (sealStep_range a c)
theorem sealOf_range (t : Th) : 1 ≤ sealOf t ∧ sealOf t ≤ mostSeal := by
  have h := sealRun_range t.codes 7 (by decide)
  unfold sealOf sealRun
  omega

/-- what may be laid, of no great length -/
def Th.fit (t : Th) : Bool := t.within 5 && decide (t.codes.length ≤ 1000)
def Th.fitW (t : Th) : Bool := t.within 4 && decide (t.codes.length ≤ 900)
theorem fit_iff {t : Th} : t.fit = true ↔ t.within 5 = true ∧ t.codes.length ≤ 1000 := by
  unfold Th.fit
  rw [Bool.and_eq_true, decide_eq_true_eq]
theorem fitW_iff {t : Th} : t.fitW = true ↔ t.within 4 = true ∧ t.codes.length ≤ 900 := by
  unfold Th.fitW
  rw [Bool.and_eq_true, decide_eq_true_eq]

/-! ### keys and their order -/
inductive Ky where
  | int (i : Int)
  | str (s : Str)
  deriving DecidableEq
def Ky.th : Ky → Th
  | .int i => .int i
  | .str s => .str s
theorem Ky.th_inj {a b : Ky} (h : a.th = b.th) : a = b := by
  cases a <;> cases b <;> simp [Ky.th] at h <;> simp [h]
theorem Ky.th_ne (a : Ky) : a.th ≠ .non := by cases a <;> simp [Ky.th]
def Ky.okK (k : Ky) : Bool := k.th.within 0
theorem okK_len {k : Ky} (h : k.okK = true) : k.th.codes.length ≤ 20 := by
  cases k with
  | int i => simp [Ky.th, Th.codes]
  | str s =>
    have h1 : okStr s = true := by simpa [Ky.okK, Ky.th, Th.within] using h
    unfold okStr at h1
    rw [Bool.and_eq_true, decide_eq_true_eq] at h1
    have h2 : s.cps.toList.length = s.length := Array.length_toList
    simp only [Ky.th, Th.codes, textCodes, List.length_append, List.length_map, List.length_range, List.length_cons, List.length_nil, h2]
    omega
def ahead : Ky → Ky → Bool
  | .int i, .int j => decide (i < j)
  | .int _, .str _ => true
  | .str _, .int _ => false
  | .str a, .str b => decide (a.cps.toList < b.cps.toList)
theorem str_ext {a b : Str} (h : a.cps.toList = b.cps.toList) : a = b := by
  cases a; cases b
  have q := Array.ext' h
  simp at q
  rw [q]
theorem ahead_irrefl (a : Ky) : ahead a a = false := by
  cases a <;> simp [ahead]
theorem ahead_trans {a b c : Ky} (h1 : ahead a b = true) (h2 : ahead b c = true) : ahead a c = true := by
  cases a <;> cases b <;> cases c <;> simp [ahead] at h1 h2 ⊢
  · omega
  · exact List.lt_trans h1 h2
theorem ahead_tri (a b : Ky) : ahead a b = true ∨ a = b ∨ ahead b a = true := by
  cases a with
  | int i =>
    cases b with
    | int j => simp [ahead]; omega
    | str t => simp [ahead]
  | str s =>
    cases b with
    | int j => simp [ahead]
    | str t =>
      simp only [ahead, decide_eq_true_eq]
      by_cases h : s.cps.toList < t.cps.toList
      · exact .inl h
      · by_cases h2 : t.cps.toList < s.cps.toList
        · exact .inr (.inr h2)
        · refine .inr (.inl ?_)
          rw [str_ext (List.le_antisymm (List.not_lt.mp h2) (List.not_lt.mp h))]
theorem ahead_asymm {a b : Ky} (h : ahead a b = true) : ahead b a = false := by
  cases e : ahead b a with
  | false => rfl
  | true =>
    have q := ahead_trans h e
    rw [ahead_irrefl] at q
    cases q
theorem ahead_ne {a b : Ky} (h : ahead a b = true) : a ≠ b := fun e => by
  rw [e, ahead_irrefl] at h; cases h
theorem ahead_not {a b : Ky} (h : ahead a b = false) (n : a ≠ b) : ahead b a = true := by
  rcases ahead_tri a b with q | q | q
  · rw [q] at h; cases h
  · exact absurd q n
  · exact q
/-- "rank" -/
def rankWord : Str := "rank"
def rank (k : Ky) : Int := sealOf (.tup [.str rankWord, k.th])
def above (a b : Ky) : Bool := decide (rank a > rank b) || (decide (rank a = rank b) && ahead a b)
theorem above_irrefl (a : Ky) : above a a = false := by
  unfold above
  simp [ahead_irrefl]
theorem above_trans {a b c : Ky} (h1 : above a b = true) (h2 : above b c = true) : above a c = true := by
  unfold above at *
  simp only [Bool.or_eq_true, Bool.and_eq_true, decide_eq_true_eq] at *
  rcases h1 with h1 | ⟨h1, k1⟩ <;> rcases h2 with h2 | ⟨h2, k2⟩
  · exact .inl (by omega)
  · exact .inl (by omega)
  · exact .inl (by omega)
  · exact .inr ⟨by omega, ahead_trans k1 k2⟩
theorem above_asymm {a b : Ky} (h : above a b = true) : above b a = false := by
  cases e : above b a with
  | false => rfl
  | true =>
    have q := above_trans h e
    rw [above_irrefl] at q
    cases q
theorem above_not {a b : Ky} (h : above a b = false) (n : a ≠ b) : above b a = true := by
  unfold above at *
  simp only [Bool.or_eq_false_iff, Bool.and_eq_false_iff, decide_eq_false_iff_not, Bool.or_eq_true, Bool.and_eq_true, decide_eq_true_eq] at *
  obtain ⟨h1, h2⟩ := h
  rcases h2 with h2 | h2
  · exact .inl (by omega)
  · by_cases e : rank b > rank a
    · exact .inl e
    · exact .inr ⟨by omega, ahead_not h2 n⟩
theorem above_ne {a b : Ky} (h : above a b = true) : a ≠ b := fun e => by
  rw [e, above_irrefl] at h; cases h
end PV
set_option Elab.async false
set_option linter.all false
set_option maxRecDepth 100000
/-! Tables, vaults, asks as trees of reads and lays, their runs; a reader's run and a witness's. -/
namespace PV
open PySem

/-! ### tables -/
section
variable {κ β : Type} [DecidableEq κ]
def lk : List (κ × β) → κ → Option β
  | [], _ => none
  | p :: r, k => if p.1 = k then some p.2 else lk r k
def rp : List (κ × β) → κ → β → List (κ × β)
  | [], _, _ => []
  | p :: r, k, v => (if p.1 = k then (p.1, v) else p) :: rp r k v
def pt (m : List (κ × β)) (k : κ) (v : β) : List (κ × β) := if (lk m k).isSome then rp m k v else m ++ [(k, v)]
def dp (m : List (κ × β)) (k : κ) : List (κ × β) := m.filter fun p => decide (p.1 ≠ k)
theorem lk_rp (k j : κ) (v : β) : ∀ m : List (κ × β), lk (rp m k v) j = if j = k then (lk m k).map fun _ => v else lk m j
  | [] => by simp [rp, lk]
  | p :: r => by
    have ih := lk_rp k j v r
    unfold rp lk
    by_cases h : p.1 = k
    · simp only [h, if_true]
      by_cases e : k = j
      · subst e; simp
      · rw [if_neg e, ih, if_neg (fun z => e z.symm), if_neg (fun z => e z.symm), if_neg e]
    · simp only [if_neg h]
      by_cases e : p.1 = j
      · have nj : ¬ j = k := fun z => h (e.trans z)
        rw [if_pos e, if_neg nj, if_pos e]
      · rw [if_neg e, if_neg e, ih]
theorem lk_snoc (k j : κ) (v : β) : ∀ m : List (κ × β), lk m k = none → lk (m ++ [(k, v)]) j = if j = k then some v else lk m j
  | [], _ => by
    show (if k = j then some v else none) = _
    by_cases e : j = k
    · rw [if_pos e, if_pos e.symm]
    · rw [if_neg e, if_neg (fun z => e z.symm)]; rfl
  | p :: r, h => by
    unfold lk at h
    have hk : ¬ p.1 = k := fun z => by rw [if_pos z] at h; cases h
    rw [if_neg hk] at h
    have ih := lk_snoc k j v r h
    rw [List.cons_append]
    unfold lk
    by_cases e : p.1 = j
    · rw [if_pos e, if_pos e, if_neg (fun z => hk (e.trans z))]
    · rw [if_neg e, if_neg e, ih]
theorem lk_pt (m : List (κ × β)) (k j : κ) (v : β) : lk (pt m k v) j = if j = k then some v else lk m j := by
  unfold pt
  cases e : lk m k with
  | none =>
    rw [if_neg (by simp)]
    exact lk_snoc k j v m e
  | some x =>
    rw [if_pos (by simp), lk_rp, e]
    rfl
theorem pt_len (m : List (κ × β)) (k : κ) (v : β) : (pt m k v).length ≤ m.length + 1 := by
  have h : ∀ m : List (κ × β), (rp m k v).length = m.length := by
    intro m
    induction m with
    | nil => rfl
    | cons p r ih => unfold rp; rw [List.length_cons, List.length_cons, ih]
  unfold pt
  split
  · rw [h]; omega
  · simp
theorem lk_dp (k j : κ) : ∀ m : List (κ × β), lk (dp m k) j = if j = k then none else lk m j
  | [] => by simp [dp, lk]
  | p :: r => by
    have ih := lk_dp k j r
    unfold dp at ih ⊢
    by_cases h : p.1 = k
    · rw [List.filter_cons_of_neg (by simp [h]), ih]
      by_cases e : j = k
      · rw [if_pos e, if_pos e]
      · rw [if_neg e, if_neg e]
        show _ = if p.1 = j then some p.2 else lk r j
        rw [if_neg (fun z => e (z.symm.trans h))]
    · rw [List.filter_cons_of_pos (by simp [h])]
      unfold lk
      by_cases e : p.1 = j
      · rw [if_pos e, if_neg (fun z => h (e.trans z)), if_pos e]
      · rw [if_neg e, if_neg e, ih]
theorem lk_mem {m : List (κ × β)} {k : κ} {v : β} (h : lk m k = some v) : (k, v) ∈ m := by
  induction m with
  | nil => cases h
  | cons p r ih =>
    unfold lk at h
    by_cases e : p.1 = k
    · rw [if_pos e] at h
      cases h
      rw [← e]
      exact List.mem_cons_self
    · rw [if_neg e] at h
      exact List.mem_cons_of_mem _ (ih h)
theorem lk_key {m : List (κ × β)} {k : κ} : (lk m k).isSome = true ↔ k ∈ m.map (·.1) := by
  induction m with
  | nil => simp [lk]
  | cons p r ih =>
    unfold lk
    by_cases e : p.1 = k
    · simp [e]
    · rw [if_neg e, ih]
      simp only [List.map_cons, List.mem_cons]
      exact ⟨.inr, fun h => h.elim (fun z => absurd z.symm e) id⟩
theorem lk_none {m : List (κ × β)} {k : κ} : lk m k = none ↔ k ∉ m.map (·.1) := by
  rw [← lk_key]
  cases lk m k <;> simp
theorem lk_of {m : List (κ × β)} (nd : (m.map (·.1)).Nodup) {k : κ} {v : β} (h : (k, v) ∈ m) : lk m k = some v := by
  induction m with
  | nil => simp at h
  | cons p r ih =>
    rw [List.map_cons, List.nodup_cons] at nd
    unfold lk
    rcases List.mem_cons.mp h with h | h
    · subst h; simp
    · have hk : ¬ p.1 = k := fun z => nd.1 (by rw [z]; exact List.mem_map.mpr ⟨_, h, rfl⟩)
      rw [if_neg hk]
      exact ih nd.2 h
theorem rp_keys (k : κ) (v : β) : ∀ m : List (κ × β), (rp m k v).map (·.1) = m.map (·.1)
  | [] => rfl
  | p :: r => by
    unfold rp
    rw [List.map_cons, List.map_cons, rp_keys k v r]
    congr 1
    split <;> rfl
theorem pt_nodup {m : List (κ × β)} (nd : (m.map (·.1)).Nodup) (k : κ) (v : β) : ((pt m k v).map (·.1)).Nodup := by
  unfold pt
  cases e : lk m k with
  | none =>
    rw [if_neg (by simp), List.map_append, List.nodup_append]
    refine ⟨nd, by simp, fun a ha b hb => ?_⟩
    have hb' : b = k := by simpa using hb
    intro z
    rw [z, hb'] at ha
    exact (lk_none.mp e) ha
  | some x =>
    rw [if_pos (by simp), rp_keys]
    exact nd
end

/-! ### vaults -/
abbrev Mp := List (Int × Th)
structure VS where
  own : Mp
  below : Mp
  noted : Mp
def cap : Nat := 1000000
inductive Got where
  | got (t : Th) (s : VS)
  | lacks
  | over
def VS.get (s : VS) (n : Int) : Got := match lk s.own n with
  | some t => .got t s
  | none => match lk s.below n with
    | some t => if s.noted.length < cap then .got t { s with noted := pt s.noted n t } else .over
    | none => .lacks
inductive Laid where
  | ok (n : Int) (s : VS)
  | clash (x y : Th)
  | over
noncomputable def VS.lay2 (s : VS) (t : Th) : Laid := match lk s.own (sealOf t) with
  | some x => if x ≠ t then .clash x t else if s.own.length < cap then .ok (sealOf t) { s with own := pt s.own (sealOf t) t } else .over
  | none => if s.own.length < cap then .ok (sealOf t) { s with own := pt s.own (sealOf t) t } else .over
noncomputable def VS.lay (s : VS) (t : Th) : Laid := if t.fit = false then .over else match lk s.below (sealOf t) with
  | some x => if x ≠ t then .clash x t else s.lay2 t
  | none => s.lay2 t
def VS.view (s : VS) (n : Int) : Option Th := (lk s.own n).or (lk s.below n)

/-! ### asks as trees -/
inductive Prog (α : Type) where
  | ret (a : α)
  | bad
  | rd (n : Int) (k : Th → Prog α)
  | ly (t : Th) (k : Int → Prog α)
def Prog.bind {α β : Type} : Prog α → (α → Prog β) → Prog β
  | .ret a, f => f a
  | .bad, _ => .bad
  | .rd n k, f => .rd n fun t => (k t).bind f
  | .ly t k, f => .ly t fun n => (k n).bind f
theorem bind_assoc {α β γ : Type} (p : Prog α) (f : α → Prog β) (g : β → Prog γ) : (p.bind f).bind g = p.bind fun a => (f a).bind g := by
  induction p with
  | ret a => rfl
  | bad => rfl
  | rd n k ih => show Prog.rd n _ = Prog.rd n _; congr 1; funext t; exact ih t
  | ly t k ih => show Prog.ly t _ = Prog.ly t _; congr 1; funext n; exact ih n
inductive Out (α : Type) where
  | ok (a : α) (s : VS)
  | nop
  | clash (x y : Th)
  | bad
noncomputable def run {α : Type} : Prog α → VS → Out α
  | .ret a, s => .ok a s
  | .bad, _ => .bad
  | .rd n k, s => match s.get n with
    | .got t s' => run (k t) s'
    | .lacks => .nop
    | .over => .bad
  | .ly t k, s => match s.lay t with
    | .ok n s' => run (k n) s'
    | .clash x y => .clash x y
    | .over => .bad
def Out.wp {α : Type} (o : Out α) (Q : α → VS → Prop) (N : Prop) (C : Th → Th → Prop) : Prop := match o with
  | .ok a s => Q a s
  | .nop => N
  | .clash x y => C x y
  | .bad => False
abbrev wpr {α : Type} (p : Prog α) (s : VS) (Q : α → VS → Prop) (N : Prop) (C : Th → Th → Prop) : Prop := (run p s).wp Q N C
theorem wp_bind {α β : Type} (p : Prog α) (f : α → Prog β) (s : VS) (Q : β → VS → Prop) (N : Prop) (C : Th → Th → Prop) :
    wpr (p.bind f) s Q N C = wpr p s (fun a s' => wpr (f a) s' Q N C) N C := by
  induction p generalizing s with
  | ret a => rfl
  | bad => rfl
  | rd n k ih =>
    show (run (.rd n fun t => (k t).bind f) s).wp Q N C = (run (.rd n k) s).wp _ N C
    unfold run
    cases s.get n with
    | got t s' => exact ih t s'
    | lacks => rfl
    | over => rfl
  | ly t k ih =>
    show (run (.ly t fun n => (k n).bind f) s).wp Q N C = (run (.ly t k) s).wp _ N C
    unfold run
    cases s.lay t with
    | ok n s' => exact ih n s'
    | clash x y => rfl
    | over => rfl
theorem wp_mono {α : Type} {o : Out α} {Q Q' : α → VS → Prop} {N N' : Prop} {C C' : Th → Th → Prop} (h : o.wp Q N C) (hQ : ∀ a s, Q a s → Q' a s) (hN : N → N') (hC : ∀ x y, C x y → C' x y) : o.wp Q' N' C' := by
  cases o with
  | ok a s => exact hQ a s h
  | nop => exact hN h
  | clash x y => exact hC x y h
  | bad => exact h
theorem wp_both {α : Type} {o : Out α} {Q Q' : α → VS → Prop} {N N' : Prop} {C C' : Th → Th → Prop} (h : o.wp Q N C) (h' : o.wp Q' N' C') : o.wp (fun a s => Q a s ∧ Q' a s) (N ∧ N') fun x y => C x y ∧ C' x y := by
  cases o with
  | ok a s => exact ⟨h, h'⟩
  | nop => exact ⟨h, h'⟩
  | clash x y => exact ⟨h, h'⟩
  | bad => exact h

/-! ### what every run keeps -/
structure VS.Ok (s : VS) : Prop where
  own : ∀ n t, lk s.own n = some t → sealOf t = n ∧ t.fit = true
  below : ∀ n t, lk s.below n = some t → sealOf t = n ∧ t.fit = true
  noted : ∀ n t, lk s.noted n = some t → lk s.below n = some t
  nd1 : (s.own.map (·.1)).Nodup
  nd2 : (s.below.map (·.1)).Nodup
  nd3 : (s.noted.map (·.1)).Nodup
structure Ext (s s' : VS) : Prop where
  below : s'.below = s.below
  own : ∀ n t, lk s.own n = some t → lk s'.own n = some t
  noted : ∀ n t, lk s.noted n = some t → lk s'.noted n = some t
theorem Ext.refl (s : VS) : Ext s s := ⟨rfl, fun _ _ h => h, fun _ _ h => h⟩
theorem Ext.trans {a b c : VS} (h : Ext a b) (k : Ext b c) : Ext a c := ⟨k.below.trans h.below, fun n t e => k.own n t (h.own n t e), fun n t e => k.noted n t (h.noted n t e)⟩
theorem Ext.view {s s' : VS} (e : Ext s s') (o : s'.Ok) (c : ∀ n t u, lk s'.own n = some t → lk s'.below n = some u → t = u) {n : Int} {t : Th} (h : s.view n = some t) : s'.view n = some t := by
  unfold VS.view at h ⊢
  cases q : lk s.own n with
  | some x =>
    rw [q] at h
    rw [e.own n x q]
    exact h
  | none =>
    rw [q] at h
    have hb : lk s'.below n = some t := by rw [e.below]; exact h
    cases r : lk s'.own n with
    | none => exact hb
    | some x => rw [c n x t r hb]; rfl
/-- own and below agree -/
def VS.Agr (s : VS) : Prop := ∀ n t u, lk s.own n = some t → lk s.below n = some u → t = u
theorem lay_ok {s : VS} {t : Th} (k : s.Ok) (g : s.Agr) : match s.lay t with
    | .ok n s' => n = sealOf t ∧ s'.Ok ∧ s'.Agr ∧ Ext s s' ∧ lk s'.own n = some t ∧ (∀ m, m ≠ n → lk s'.own m = lk s.own m) ∧ s'.noted = s.noted ∧ s'.own.length ≤ s.own.length + 1 ∧ (∀ x, lk s.below n = some x → x = t) ∧ ∀ x, lk s.own n = some x → x = t
    | .clash x y => x ≠ y ∧ sealOf x = sealOf y
    | .over => t.fit = false ∨ cap ≤ s.own.length := by
  have l2 : t.fit = true → (∀ x, lk s.below (sealOf t) = some x → x = t) → match s.lay2 t with
      | .ok n s' => n = sealOf t ∧ s'.Ok ∧ s'.Agr ∧ Ext s s' ∧ lk s'.own n = some t ∧ (∀ m, m ≠ n → lk s'.own m = lk s.own m) ∧ s'.noted = s.noted ∧ s'.own.length ≤ s.own.length + 1 ∧ (∀ x, lk s.below n = some x → x = t) ∧ ∀ x, lk s.own n = some x → x = t
      | .clash x y => x ≠ y ∧ sealOf x = sealOf y
      | .over => t.fit = false ∨ cap ≤ s.own.length := by
    intro hw hb
    have fin : (∀ x, lk s.own (sealOf t) = some x → x = t) → match (if s.own.length < cap then Laid.ok (sealOf t) { s with own := pt s.own (sealOf t) t } else Laid.over) with
      | .ok n s' => n = sealOf t ∧ s'.Ok ∧ s'.Agr ∧ Ext s s' ∧ lk s'.own n = some t ∧ (∀ m, m ≠ n → lk s'.own m = lk s.own m) ∧ s'.noted = s.noted ∧ s'.own.length ≤ s.own.length + 1 ∧ (∀ x, lk s.below n = some x → x = t) ∧ ∀ x, lk s.own n = some x → x = t
      | .clash x y => x ≠ y ∧ sealOf x = sealOf y
      | .over => t.fit = false ∨ cap ≤ s.own.length := by
      intro ho
      by_cases hc : s.own.length < cap
      · rw [if_pos hc]
        refine ⟨rfl, ⟨fun n u h => ?_, k.below, k.noted, pt_nodup k.nd1 _ _, k.nd2, k.nd3⟩, fun n u v h1 h2 => ?_, ⟨rfl, fun n u h => ?_, fun _ _ h => h⟩, ?_, fun m hm => ?_, rfl, pt_len _ _ _, hb, ho⟩
        · have h' : lk (pt s.own (sealOf t) t) n = some u := h
          rw [lk_pt] at h'
          by_cases e : n = sealOf t
          · rw [if_pos e] at h'
            cases h'
            exact ⟨e.symm, hw⟩
          · rw [if_neg e] at h'
            exact k.own n u h'
        · have h' : lk (pt s.own (sealOf t) t) n = some u := h1
          have h2' : lk s.below n = some v := h2
          rw [lk_pt] at h'
          by_cases e : n = sealOf t
          · rw [if_pos e] at h'
            cases h'
            rw [e] at h2'
            exact (hb v h2').symm
          · rw [if_neg e] at h'
            exact g n u v h' h2'
        · show lk (pt s.own (sealOf t) t) n = some u
          rw [lk_pt]
          by_cases e : n = sealOf t
          · rw [if_pos e]
            rw [e] at h
            rw [ho u h]
          · rw [if_neg e]; exact h
        · show lk (pt s.own (sealOf t) t) (sealOf t) = some t
          rw [lk_pt, if_pos rfl]
        · show lk (pt s.own (sealOf t) t) m = lk s.own m
          rw [lk_pt, if_neg hm]
      · rw [if_neg hc]
        exact .inr (Nat.not_lt.mp hc)
    unfold VS.lay2
    cases e : lk s.own (sealOf t) with
    | none => exact fin fun x h => by rw [e] at h; cases h
    | some x =>
      dsimp only
      by_cases hx : x = t
      · rw [if_neg (by simp [hx])]
        exact fin fun y h => by rw [e] at h; cases h; exact hx
      · rw [if_pos hx]
        exact ⟨hx, (k.own _ _ e).1⟩
  unfold VS.lay
  cases hw : t.fit with
  | false => rw [if_pos rfl]; exact .inl rfl
  | true =>
    rw [if_neg (by decide)]
    rw [hw] at l2
    cases e : lk s.below (sealOf t) with
    | none => exact l2 rfl fun x h => by rw [e] at h; cases h
    | some x =>
      dsimp only
      by_cases hx : x = t
      · rw [if_neg (by simp [hx])]
        exact l2 rfl fun y h => by rw [e] at h; cases h; exact hx
      · rw [if_pos hx]
        exact ⟨hx, (k.below _ _ e).1⟩
theorem get_ok {s : VS} {n : Int} (k : s.Ok) (g : s.Agr) : match s.get n with
    | .got t s' => s.view n = some t ∧ s'.Ok ∧ s'.Agr ∧ Ext s s' ∧ s'.own = s.own ∧ s'.noted.length ≤ s.noted.length + 1 ∧ (lk s.own n = some t → s' = s) ∧ (lk s.own n = none → lk s.below n = some t ∧ s'.noted = pt s.noted n t)
    | .lacks => s.view n = none
    | .over => cap ≤ s.noted.length := by
  unfold VS.get VS.view
  cases e : lk s.own n with
  | some t => exact ⟨rfl, k, g, Ext.refl s, rfl, Nat.le_succ _, fun _ => rfl, fun h => (by cases h)⟩
  | none =>
    cases b : lk s.below n with
    | none => rfl
    | some t =>
      dsimp only
      by_cases hc : s.noted.length < cap
      · rw [if_pos hc]
        refine ⟨rfl, ⟨k.own, k.below, fun m u h => ?_, k.nd1, k.nd2, pt_nodup k.nd3 _ _⟩, g, ⟨rfl, fun _ _ h => h, fun m u h => ?_⟩, rfl, pt_len _ _ _, fun h => (by cases h), fun _ => ⟨rfl, rfl⟩⟩
        · have h' : lk (pt s.noted n t) m = some u := h
          rw [lk_pt] at h'
          by_cases q : m = n
          · rw [if_pos q] at h'
            cases h'
            rw [q]; exact b
          · rw [if_neg q] at h'
            exact k.noted m u h'
        · show lk (pt s.noted n t) m = some u
          rw [lk_pt]
          by_cases q : m = n
          · rw [if_pos q]
            have z := k.noted m u h
            rw [q, b] at z
            exact z
          · rw [if_neg q]; exact h
      · rw [if_neg hc]
        exact Nat.not_lt.mp hc
theorem run_keeps {α : Type} {Q : α → VS → Prop} {N : Prop} {C : Th → Th → Prop} : ∀ (p : Prog α) (s : VS), s.Ok → s.Agr → wpr p s Q N C →
    wpr p s (fun a s' => Q a s' ∧ s'.Ok ∧ s'.Agr ∧ Ext s s') N fun x y => C x y ∧ x ≠ y ∧ sealOf x = sealOf y
  | .ret a, s, k, g, h => ⟨h, k, g, Ext.refl s⟩
  | .bad, _, _, _, h => h
  | .rd n f, s, k, g, h => by
    have q := get_ok (n := n) k g
    unfold wpr run at h ⊢
    cases e : s.get n with
    | got t s' =>
      rw [e] at q h
      exact wp_mono (run_keeps (f t) s' q.2.1 q.2.2.1 h) (fun a s2 ⟨a1, a2, a3, a4⟩ => ⟨a1, a2, a3, q.2.2.2.1.trans a4⟩) id fun _ _ z => z
    | lacks => rw [e] at h; exact h
    | over => rw [e] at h; exact h
  | .ly t f, s, k, g, h => by
    have q := lay_ok (t := t) k g
    unfold wpr run at h ⊢
    cases e : s.lay t with
    | ok n s' =>
      rw [e] at q h
      exact wp_mono (run_keeps (f n) s' q.2.1 q.2.2.1 h) (fun a s2 ⟨a1, a2, a3, a4⟩ => ⟨a1, a2, a3, q.2.2.2.1.trans a4⟩) id fun _ _ z => z
    | clash x y => rw [e] at q h; exact ⟨h, q⟩
    | over => rw [e] at h; exact h

/-! ### how many steps -/
def Prog.le {α : Type} : Prog α → Nat → Prop
  | .ret _, _ => True
  | .bad, _ => True
  | .rd _ _, 0 => False
  | .rd _ k, m + 1 => ∀ t, (k t).le m
  | .ly _ _, 0 => False
  | .ly _ k, m + 1 => ∀ n, (k n).le m
theorem le_mono {α : Type} : ∀ (p : Prog α) {m n : Nat}, m ≤ n → p.le m → p.le n
  | .ret _, _, _, _, _ => by unfold Prog.le; trivial
  | .bad, _, _, _, _ => by unfold Prog.le; trivial
  | .rd _ _, 0, _, _, h => by simp [Prog.le] at h
  | .rd _ k, m + 1, 0, hl, _ => by omega
  | .rd _ k, m + 1, n + 1, hl, h => fun t => le_mono (k t) (by omega) (h t)
  | .ly _ _, 0, _, _, h => by simp [Prog.le] at h
  | .ly _ k, m + 1, 0, hl, _ => by omega
  | .ly _ k, m + 1, n + 1, hl, h => fun t => le_mono (k t) (by omega) (h t)
theorem le_bind {α β : Type} : ∀ (p : Prog α) (f : α → Prog β) {m n : Nat}, p.le m → (∀ a, (f a).le n) → (p.bind f).le (m + n)
  | .ret a, f, m, n, _, h => le_mono (f a) (by omega) (h a)
  | .bad, _, _, _, _, _ => by show Prog.le Prog.bad _; unfold Prog.le; trivial
  | .rd _ _, _, 0, _, h, _ => by simp [Prog.le] at h
  | .rd _ k, f, m + 1, n, h, h2 => by
    rw [show m + 1 + n = (m + n) + 1 by omega]
    exact fun t => le_bind (k t) f (h t) h2
  | .ly _ _, _, 0, _, h, _ => by simp [Prog.le] at h
  | .ly _ k, f, m + 1, n, h, h2 => by
    rw [show m + 1 + n = (m + n) + 1 by omega]
    exact fun t => le_bind (k t) f (h t) h2
theorem le_ret {α : Type} (a : α) (n : Nat) : (Prog.ret a).le n := by unfold Prog.le; trivial
theorem le_bad {α : Type} (n : Nat) : (Prog.bad : Prog α).le n := by unfold Prog.le; trivial
/-- how tables grow -/
theorem run_len {α : Type} : ∀ (p : Prog α) (m : Nat) (s : VS), p.le m → s.Ok → s.Agr → ∀ a s', run p s = .ok a s' → s'.own.length ≤ s.own.length + m ∧ s'.noted.length ≤ s.noted.length + m
  | .ret _, m, s, _, _, _, a, s', e => by
    have e' : Out.ok _ s = Out.ok a s' := e
    cases e'
    omega
  | .bad, _, _, _, _, _, _, _, e => nomatch (show Out.bad = Out.ok _ _ from e)
  | .rd _ _, 0, _, h, _, _, _, _, _ => by simp [Prog.le] at h
  | .rd n f, m + 1, s, h, k, g, a, s', e => by
    have q := get_ok (n := n) k g
    unfold run at e
    cases e2 : s.get n with
    | got t s1 =>
      rw [e2] at q e
      have ih := run_len (f t) m s1 (h t) q.2.1 q.2.2.1 a s' e
      have h1 := q.2.2.2.2.1
      have h2 := q.2.2.2.2.2.1
      rw [h1] at ih
      omega
    | lacks => rw [e2] at e; cases e
    | over => rw [e2] at e; cases e
  | .ly _ _, 0, _, h, _, _, _, _, _ => by simp [Prog.le] at h
  | .ly t f, m + 1, s, h, k, g, a, s', e => by
    have q := lay_ok (t := t) k g
    unfold run at e
    cases e2 : s.lay t with
    | ok n s1 =>
      rw [e2] at q e
      have ih := run_len (f n) m s1 (h n) q.2.1 q.2.2.1 a s' e
      obtain ⟨_, _, _, _, _, _, h1, h2, _⟩ := q
      rw [h1] at ih
      omega
    | clash x y => rw [e2] at e; cases e
    | over => rw [e2] at e; cases e

/-! ### a reader's run and a witness's -/
/-- w has what s laid, and of the keeper's things those of N -/
structure Sim (s w : VS) (N : Int → Option Th) : Prop where
  nb : w.below = []
  at_ : ∀ n, lk w.own n = (lk s.own n).or (N n)
theorem witness {α : Type} : ∀ (p : Prog α) (m : Nat) (s s' : VS) (a : α) (w : VS) (N : Int → Option Th), p.le m → s.Ok → s.Agr → run p s = .ok a s' → (∀ n t, N n = some t → lk s.below n = some t) →
    (∀ n t, lk s'.noted n = some t → N n = some t) → Sim s w N → w.own.length + m ≤ cap → ∃ w', run p w = .ok a w'
  | .ret b, m, s, s', a, w, N, _, _, _, e, _, _, _, _ => by
    have e' : Out.ok b s = Out.ok a s' := e
    cases e'
    exact ⟨w, rfl⟩
  | .bad, _, _, _, _, _, _, _, _, _, e, _, _, _, _ => nomatch (show Out.bad = Out.ok _ _ from e)
  | .rd _ _, 0, _, _, _, _, _, h, _, _, _, _, _, _, _ => by simp [Prog.le] at h
  | .rd n f, m + 1, s, s', a, w, N, h, k, g, e, hN, hS, sm, hc => by
    have q := get_ok (n := n) k g
    unfold run at e ⊢
    cases e2 : s.get n with
    | got t s1 =>
      rw [e2] at q e
      replace e : run (f t) s1 = .ok a s' := e
      obtain ⟨hv, k1, g1, x1, o1, _, q1, q2⟩ := q
      have hw : lk w.own n = some t := by
        rw [sm.at_ n]
        cases e3 : lk s.own n with
        | some x =>
          unfold VS.view at hv
          rw [e3] at hv
          exact hv
        | none =>
          obtain ⟨_, hn⟩ := q2 e3
          have h1 : lk s1.noted n = some t := by rw [hn, lk_pt, if_pos rfl]
          have h2 : lk s'.noted n = some t := by
            have z := run_keeps (Q := fun b s2 => b = a ∧ s2 = s') (N := False) (C := fun _ _ => False) (f t) s1 k1 g1 (by unfold wpr; rw [e]; exact ⟨rfl, rfl⟩)
            unfold wpr at z
            rw [e] at z
            exact z.2.2.2.noted n t h1
          exact hS n t h2
      have hg : w.get n = .got t w := by unfold VS.get; rw [hw]
      rw [hg]
      exact witness (f t) m s1 s' a w N (h t) k1 g1 e (fun i u z => by rw [x1.below]; exact hN i u z) hS ⟨sm.nb, fun i => by rw [o1]; exact sm.at_ i⟩ (by omega)
    | lacks => rw [e2] at e; cases e
    | over => rw [e2] at e; cases e
  | .ly _ _, 0, _, _, _, _, _, h, _, _, _, _, _, _, _ => by simp [Prog.le] at h
  | .ly t f, m + 1, s, s', a, w, N, h, k, g, e, hN, hS, sm, hc => by
    have q := lay_ok (t := t) k g
    unfold run at e ⊢
    cases e2 : s.lay t with
    | ok n s1 =>
      rw [e2] at q e
      obtain ⟨rfl, k1, g1, x1, o1, o2, n1, _, hb, ho⟩ := q
      have hw : t.fit = true := (k1.own _ _ o1).2
      have ht : ∀ x, lk w.own (sealOf t) = some x → x = t := fun x hx => by
        rw [sm.at_] at hx
        cases e3 : lk s.own (sealOf t) with
        | some y =>
          rw [e3] at hx
          cases hx
          exact ho _ e3
        | none =>
          rw [e3] at hx
          exact hb x (hN _ _ hx)
      have hlen : w.own.length < cap := by omega
      have hg : w.lay t = .ok (sealOf t) { w with own := pt w.own (sealOf t) t } := by
        unfold VS.lay VS.lay2
        rw [hw, if_neg (by decide), sm.nb]
        show (match lk w.own (sealOf t) with
          | some x => if x ≠ t then Laid.clash x t else if w.own.length < cap then _ else Laid.over
          | none => if w.own.length < cap then _ else Laid.over) = _
        cases e3 : lk w.own (sealOf t) with
        | none => dsimp only; rw [if_pos hlen]
        | some x =>
          dsimp only
          rw [if_neg (by simp [ht x e3]), if_pos hlen]
      rw [hg]
      refine witness (f (sealOf t)) m s1 s' a { w with own := pt w.own (sealOf t) t } N (h _) k1 g1 e (fun i u z => by rw [x1.below]; exact hN i u z) hS ⟨sm.nb, fun i => ?_⟩ ?_
      · show lk (pt w.own (sealOf t) t) i = _
        rw [lk_pt]
        by_cases ei : i = sealOf t
        · rw [if_pos ei, ei, o1]; rfl
        · rw [if_neg ei, o2 i ei]; exact sm.at_ i
      · have := pt_len w.own (sealOf t) t
        show (pt w.own (sealOf t) t).length + m ≤ cap
        omega
    | clash x y => rw [e2] at e; cases e
    | over => rw [e2] at e; cases e
/-- what is laid ahead is never noted -/
theorem laid_not_noted {α : Type} {i : Int} : ∀ (p : Prog α) (s s' : VS) (a : α), s.Ok → s.Agr → run p s = .ok a s' → (lk s.own i).isSome = true → lk s.noted i = none → lk s'.noted i = none
  | .ret b, s, s', a, _, _, e, _, h => by
    have e' : Out.ok b s = Out.ok a s' := e
    cases e'
    exact h
  | .bad, _, _, _, _, _, e, _, _ => nomatch (show Out.bad = Out.ok _ _ from e)
  | .rd n f, s, s', a, k, g, e, ho, h => by
    have q := get_ok (n := n) k g
    unfold run at e
    cases e2 : s.get n with
    | got t s1 =>
      rw [e2] at q e
      obtain ⟨_, k1, g1, _, o1, _, q1, q2⟩ := q
      refine laid_not_noted (f t) s1 s' a k1 g1 e (by rw [o1]; exact ho) ?_
      cases e3 : lk s.own n with
      | some x =>
        have hs : s1 = s := by
          unfold VS.get at e2
          rw [e3] at e2
          cases e2
          rfl
        rw [hs]; exact h
      | none =>
        rw [(q2 e3).2, lk_pt, if_neg (fun z => by rw [z, e3] at ho; cases ho)]
        exact h
    | lacks => rw [e2] at e; cases e
    | over => rw [e2] at e; cases e
  | .ly t f, s, s', a, k, g, e, ho, h => by
    have q := lay_ok (t := t) k g
    unfold run at e
    cases e2 : s.lay t with
    | ok n s1 =>
      rw [e2] at q e
      obtain ⟨_, k1, g1, x1, _, _, n1, _⟩ := q
      obtain ⟨x, hx⟩ := Option.isSome_iff_exists.mp ho
      exact laid_not_noted (f n) s1 s' a k1 g1 e (by rw [x1.own i x hx]; rfl) (by rw [n1]; exact h)
    | clash x y => rw [e2] at e; cases e
    | over => rw [e2] at e; cases e
/-- with one thing less -/
theorem lacking {α : Type} {i : Int} : ∀ (p : Prog α) (m : Nat) (s s' : VS) (a : α) (w : VS) (N : Int → Option Th), p.le m → s.Ok → s.Agr → run p s = .ok a s' → (∀ n t, N n = some t → lk s.below n = some t) →
    (∀ n t, n ≠ i → lk s'.noted n = some t → N n = some t) → N i = none → lk s.noted i = none → (lk s'.noted i).isSome = true → Sim s w N → w.own.length + m ≤ cap → run p w = .nop
  | .ret b, m, s, s', a, w, N, _, _, _, e, _, _, _, h1, h2, _, _ => by
    have e' : Out.ok b s = Out.ok a s' := e
    cases e'
    rw [h1] at h2; cases h2
  | .bad, _, _, _, _, _, _, _, _, _, e, _, _, _, _, _, _, _ => nomatch (show Out.bad = Out.ok _ _ from e)
  | .rd _ _, 0, _, _, _, _, _, h, _, _, _, _, _, _, _, _, _, _ => by simp [Prog.le] at h
  | .rd n f, m + 1, s, s', a, w, N, h, k, g, e, hN, hS, hi, h1, h2, sm, hc => by
    have q := get_ok (n := n) k g
    unfold run at e ⊢
    cases e2 : s.get n with
    | got t s1 =>
      rw [e2] at q e
      replace e : run (f t) s1 = .ok a s' := e
      obtain ⟨hv, k1, g1, x1, o1, _, q1, q2⟩ := q
      cases e3 : lk s.own n with
      | some x =>
        have hx : x = t := by
          unfold VS.view at hv
          rw [e3] at hv
          exact Option.some.inj hv
        have hs : s1 = s := q1 (by rw [e3, hx])
        have hg : w.get n = .got t w := by unfold VS.get; rw [sm.at_ n, e3, hx]; rfl
        rw [hg]
        subst hs
        exact lacking (f t) m s1 s' a w N (h t) k1 g1 e hN hS hi h1 h2 sm (by omega)
      | none =>
        obtain ⟨hb, hn⟩ := q2 e3
        by_cases ei : n = i
        · have hg : w.get n = .lacks := by unfold VS.get; rw [sm.at_ n, e3, ei, hi, sm.nb]; rfl
          rw [hg]
        · have h3 : lk s'.noted n = some t := by
            have z := run_keeps (Q := fun b s2 => b = a ∧ s2 = s') (N := False) (C := fun _ _ => False) (f t) s1 k1 g1 (by unfold wpr; rw [e]; exact ⟨rfl, rfl⟩)
            unfold wpr at z
            rw [e] at z
            exact z.2.2.2.noted n t (by rw [hn, lk_pt, if_pos rfl])
          have hg : w.get n = .got t w := by unfold VS.get; rw [sm.at_ n, e3, hS n t ei h3]; rfl
          rw [hg]
          exact lacking (f t) m s1 s' a w N (h t) k1 g1 e (fun j u z => by rw [x1.below]; exact hN j u z) hS hi (by rw [hn, lk_pt, if_neg (fun z => ei z.symm)]; exact h1) h2 ⟨sm.nb, fun j => by rw [o1]; exact sm.at_ j⟩ (by omega)
    | lacks => rw [e2] at e; cases e
    | over => rw [e2] at e; cases e
  | .ly _ _, 0, _, _, _, _, _, h, _, _, _, _, _, _, _, _, _, _ => by simp [Prog.le] at h
  | .ly t f, m + 1, s, s', a, w, N, h, k, g, e, hN, hS, hi, h1, h2, sm, hc => by
    have q := lay_ok (t := t) k g
    unfold run at e ⊢
    cases e2 : s.lay t with
    | ok n s1 =>
      rw [e2] at q e
      obtain ⟨rfl, k1, g1, x1, o1, o2, n1, _, hb, ho⟩ := q
      have hni : sealOf t ≠ i := fun z => by
        have y := laid_not_noted (i := i) (f (sealOf t)) s1 s' a k1 g1 e (by rw [← z, o1]; rfl) (by rw [n1]; exact h1)
        rw [y] at h2; cases h2
      have hw : t.fit = true := (k1.own _ _ o1).2
      have ht : ∀ x, lk w.own (sealOf t) = some x → x = t := fun x hx => by
        rw [sm.at_] at hx
        cases e3 : lk s.own (sealOf t) with
        | some y =>
          rw [e3] at hx
          cases hx
          exact ho _ e3
        | none =>
          rw [e3] at hx
          exact hb x (hN _ _ hx)
      have hlen : w.own.length < cap := by omega
      have hg : w.lay t = .ok (sealOf t) { w with own := pt w.own (sealOf t) t } := by
        unfold VS.lay VS.lay2
        rw [hw, if_neg (by decide), sm.nb]
        show (match lk w.own (sealOf t) with
          | some x => if x ≠ t then Laid.clash x t else if w.own.length < cap then _ else Laid.over
          | none => if w.own.length < cap then _ else Laid.over) = _
        cases e3 : lk w.own (sealOf t) with
        | none => dsimp only; rw [if_pos hlen]
        | some x =>
          dsimp only
          rw [if_neg (by simp [ht x e3]), if_pos hlen]
      rw [hg]
      refine lacking (f (sealOf t)) m s1 s' a { w with own := pt w.own (sealOf t) t } N (h _) k1 g1 e (fun j u z => by rw [x1.below]; exact hN j u z) hS hi (by rw [n1]; exact h1) h2 ⟨sm.nb, fun j => ?_⟩ ?_
      · show lk (pt w.own (sealOf t) t) j = _
        rw [lk_pt]
        by_cases ej : j = sealOf t
        · rw [if_pos ej, ej, o1]; rfl
        · rw [if_neg ej, o2 j ej]; exact sm.at_ j
      · have := pt_len w.own (sealOf t) t
        show (pt w.own (sealOf t) t).length + m ≤ cap
        omega
    | clash x y => rw [e2] at e; cases e
    | over => rw [e2] at e; cases e
end PV
set_option Elab.async false
set_option linter.all false
set_option maxRecDepth 100000
/-! The program's tree functions as trees of reads and lays. -/
namespace PV
open PySem

/-! ### nodes -/
structure Nd where
  k : Ky
  w : Th
  l : Int
  r : Int
  c : Int
def Nd.th (d : Nd) : Th := .tup [d.k.th, d.w, .int d.l, .int d.r, .int d.c]
def kyOf : Th → Option Ky
  | .int i => some (.int i)
  | .str s => some (.str s)
  | _ => none
theorem kyOf_th (k : Ky) : kyOf k.th = some k := by cases k <;> rfl
theorem kyOf_eq {t : Th} {k : Ky} (h : kyOf t = some k) : t = k.th := by
  cases t <;> simp [kyOf] at h <;> subst h <;> rfl
structure Nd.Ok (d : Nd) : Prop where
  win : d.th.fit = true
  w : d.w ≠ .non
  l : 0 ≤ d.l
  r : 0 ≤ d.r
  c1 : 1 ≤ d.c
  c2 : d.c ≤ 300
def asNd0 : Th → Option Nd
  | .tup [k, w, .int l, .int r, .int c] => (kyOf k).map fun k => ⟨k, w, l, r, c⟩
  | _ => none
theorem asNd0_eq {t : Th} {d : Nd} (h : asNd0 t = some d) : t = d.th := by
  unfold asNd0 at h
  split at h
  · rename_i k w l r c
    cases e : kyOf k with
    | none => rw [e] at h; cases h
    | some k' =>
      rw [e] at h
      cases h
      rw [kyOf_eq e]
      rfl
  · cases h
theorem asNd0_th (d : Nd) : asNd0 d.th = some d := by
  show (kyOf d.k.th).map _ = _
  rw [kyOf_th]; rfl
open Classical in
noncomputable def asNd (t : Th) : Option Nd := match asNd0 t with
  | some d => if d.Ok then some d else none
  | none => none
theorem asNd_eq {t : Th} {d : Nd} (h : asNd t = some d) : t = d.th ∧ d.Ok := by
  unfold asNd at h
  cases e : asNd0 t with
  | none => rw [e] at h; cases h
  | some x =>
    rw [e] at h
    dsimp only at h
    by_cases q : x.Ok
    · rw [if_pos q] at h
      cases h
      exact ⟨asNd0_eq e, q⟩
    · rw [if_neg q] at h; cases h
theorem asNd_th {d : Nd} (h : d.Ok) : asNd d.th = some d := by
  unfold asNd
  rw [asNd0_th]
  exact if_pos h

/-! ### reads -/
def fuelP : Nat := 40
def fuelS : Nat := 100
noncomputable def nodeP (root : Int) : Prog Nd := .rd root fun t => match asNd t with
  | some d => .ret d
  | none => .bad
noncomputable def beneathP (root c : Int) : Prog Nd := (nodeP root).bind fun d => if d.c < c then .ret d else .bad
noncomputable def sizeP (root : Int) : Prog Int := if root = 0 then .ret 0 else (nodeP root).bind fun d => .ret d.c
noncomputable def sizeBP (root c : Int) : Prog Int := if root = 0 then .ret 0 else (beneathP root c).bind fun d => .ret d.c
noncomputable def foundP : Nat → Int → Ky → Int → Prog Th
  | 0, _, _, _ => .bad
  | f + 1, root, key, c => if root = 0 then .ret .non else (beneathP root c).bind fun d => if d.k = key then .ret d.w else foundP f (if ahead key d.k = true then d.l else d.r) key d.c
noncomputable def foundQ (root : Int) (key : Ky) : Prog Th := foundP fuelP root key 301
def goesL : Option Ky → Ky → Bool
  | none, _ => true
  | some a, k => ahead a k
def goesR : Option Ky → Ky → Bool
  | none, _ => true
  | some b, k => ahead k b
def notBelow : Option Ky → Ky → Bool
  | none, _ => true
  | some a, k => !ahead k a
def isIn (lo hi : Option Ky) (k : Ky) : Bool := notBelow lo k && goesR hi k
def isEmpty : Option Ky → Option Ky → Bool
  | some a, some b => !ahead a b
  | _, _ => false
noncomputable def needP (d : Nd) : Prog Unit := (sizeBP d.l d.c).bind fun l => (sizeBP d.r d.c).bind fun r => if l + r + 1 = d.c then .ret () else .bad
inductive SI where
  | at_ (root c : Int)
  | pr (k : Ky) (w : Th)
def pushed (lo hi : Option Ky) (d : Nd) (r : List SI) : List SI :=
  (if goesL lo d.k = true then [SI.at_ d.l d.c] else []) ++ ((if isIn lo hi d.k = true then [SI.pr d.k d.w] else []) ++ ((if goesR hi d.k = true then [SI.at_ d.r d.c] else []) ++ r))
noncomputable def stretchP : Nat → Option Ky → Option Ky → List SI → List (Ky × Th) → Prog (List (Ky × Th))
  | 0, _, _, _, _ => .bad
  | _ + 1, _, _, [], acc => .ret acc
  | f + 1, lo, hi, .pr k w :: r, acc => stretchP f lo hi r (acc ++ [(k, w)])
  | f + 1, lo, hi, .at_ root c :: r, acc => if root = 0 then stretchP f lo hi r acc else (beneathP root c).bind fun d =>
      (if (goesL lo d.k && goesR hi d.k) = true then needP d else .ret ()).bind fun _ => stretchP f lo hi (pushed lo hi d r) acc
noncomputable def stretchQ (root : Int) (lo hi : Option Ky) : Prog (List (Ky × Th)) := if isEmpty lo hi = true then .ret [] else stretchP fuelS lo hi [.at_ root 301] []
noncomputable def aheadP : Nat → Int → Ky → Int → Int → Prog Int
  | 0, _, _, _, _ => .bad
  | f + 1, root, key, many, c => if root = 0 then .ret many else (beneathP root c).bind fun d =>
      if d.k = key then (sizeBP d.l d.c).bind fun z => .ret (many + z)
      else if ahead d.k key = true then (sizeBP d.r d.c).bind fun z => aheadP f d.r key (many + (d.c - z)) d.c else aheadP f d.l key many d.c
noncomputable def aheadQ (root : Int) (key : Ky) : Prog Int := aheadP fuelP root key 0 301
noncomputable def firstQ (root : Int) : Option Ky → Prog Int
  | none => .ret 0
  | some a => aheadQ root a
noncomputable def lastQ (root first : Int) : Option Ky → Prog Int
  | none => (sizeP root).bind fun z => .ret (z - first)
  | some b => (aheadQ root b).bind fun z => .ret (z - first)
noncomputable def countQ (root : Int) (lo hi : Option Ky) : Prog Int := if isEmpty lo hi = true then .ret 0 else (firstQ root lo).bind fun first => lastQ root first hi
noncomputable def nthP : Nat → Int → Int → Int → Prog (Option (Ky × Th))
  | 0, _, _, _ => .bad
  | f + 1, root, number, c => if root = 0 then .ret none else (beneathP root c).bind fun d => (sizeBP d.l d.c).bind fun m =>
      if number = m then .ret (some (d.k, d.w)) else if number > m then nthP f d.r (number - (m + 1)) d.c else nthP f d.l number d.c
noncomputable def nthQ (root number : Int) : Prog (Option (Ky × Th)) := if number < 0 then .ret none else nthP fuelP root number 301

/-! ### lays -/
noncomputable def partDown : Nat → Int → Ky → Int → List Nd → Prog (List Nd)
  | 0, _, _, _, _ => .bad
  | f + 1, root, key, c, way => if root = 0 then .ret way else (beneathP root c).bind fun d => partDown f (if ahead d.k key = true then d.r else d.l) key d.c (d :: way)
structure PSt where
  left : Int
  right : Int
  lesser : Int
  greater : Int
  beneath : Int
def partBack (key : Ky) : List Nd → PSt → Prog (Int × Int)
  | [], s => .ret (s.left, s.right)
  | d :: r, s => if ahead d.k key = true then .ly (Nd.th ⟨d.k, d.w, d.l, s.left, s.lesser + (d.c - s.beneath)⟩) fun n => partBack key r ⟨n, s.right, s.lesser + (d.c - s.beneath), s.greater, d.c⟩
      else .ly (Nd.th ⟨d.k, d.w, s.right, d.r, s.greater + (d.c - s.beneath)⟩) fun n => partBack key r ⟨s.left, n, s.lesser, s.greater + (d.c - s.beneath), d.c⟩
noncomputable def partQ (root : Int) (key : Ky) : Prog (Int × Int) := (partDown fuelP root key 301 []).bind fun way => partBack key way ⟨0, 0, 0, 0, 0⟩
noncomputable def joinDown : Nat → Int → Int → Int → Int → List (Nd × Bool × Int) → Prog (Int × List (Nd × Bool × Int))
  | 0, _, _, _, _, _ => .bad
  | f + 1, left, right, one, other, way => if left = 0 ∨ right = 0 then .ret (if left = 0 then right else left, way) else
      (beneathP left one).bind fun a => (beneathP right other).bind fun b =>
        if above a.k b.k = true then joinDown f a.r right a.c other ((a, true, a.c + b.c) :: way) else joinDown f left b.l one b.c ((b, false, a.c + b.c) :: way)
def joinBack : List (Nd × Bool × Int) → Int → Prog Int
  | [], root => .ret root
  | (d, true, both) :: r, root => .ly (Nd.th ⟨d.k, d.w, d.l, root, both⟩) fun n => joinBack r n
  | (d, false, both) :: r, root => .ly (Nd.th ⟨d.k, d.w, root, d.r, both⟩) fun n => joinBack r n
noncomputable def joinedQ (left right most : Int) : Prog Int := (joinDown fuelP left right most most []).bind fun p => joinBack p.2 p.1
def rebuiltP (key : Ky) (more : Int) : List Nd → Int → Prog Int
  | [], root => .ret root
  | d :: r, root => if ahead key d.k = true then .ly (Nd.th ⟨d.k, d.w, root, d.r, d.c + more⟩) fun n => rebuiltP key more r n
      else .ly (Nd.th ⟨d.k, d.w, d.l, root, d.c + more⟩) fun n => rebuiltP key more r n
noncomputable def putP : Nat → Int → Ky → Th → Int → List Nd → Prog Int
  | 0, _, _, _, _, _ => .bad
  | f + 1, root, key, worth, c, way => if root = 0 then .ly (Nd.th ⟨key, worth, 0, 0, 1⟩) fun n => rebuiltP key 1 way n else
      (beneathP root c).bind fun d => if d.k = key then .ly (Nd.th ⟨key, worth, d.l, d.r, d.c⟩) fun n => rebuiltP key 0 way n
        else if above key d.k = true then (partQ root key).bind fun p => .ly (Nd.th ⟨key, worth, p.1, p.2, d.c + 1⟩) fun n => rebuiltP key 1 way n
        else putP f (if ahead key d.k = true then d.l else d.r) key worth d.c (d :: way)
noncomputable def putQ (root : Int) (key : Ky) (worth : Th) : Prog Int := putP fuelP root key worth 301 []
noncomputable def cutP (whole : Int) : Nat → Int → Ky → Int → List Nd → Prog Int
  | 0, _, _, _, _ => .bad
  | f + 1, root, key, c, way => if root = 0 then .ret whole else
      (beneathP root c).bind fun d => if d.k = key then (joinedQ d.l d.r d.c).bind fun n => rebuiltP key (-1) way n
        else cutP whole f (if ahead key d.k = true then d.l else d.r) key d.c (d :: way)
noncomputable def cutQ (root : Int) (key : Ky) : Prog Int := cutP root fuelP root key 301 []

/-! ### asks -/
inductive Aq where
  | find (k : Ky)
  | stretch (lo hi : Option Ky)
  | count (lo hi : Option Ky)
  | nth (n : Int)
  | put (k : Ky) (w : Th)
  | cut (k : Ky)
inductive Ak where
  | one (a : Aq)
  | also_ (l : List Aq)
def pairD (p : Ky × Th) : PyData := .tuple [p.1.th.data, p.2.data]
def optD : Option (Ky × Th) → PyData
  | none => .none
  | some p => pairD p
noncomputable def Aq.prog (root : Int) : Aq → Prog PyData
  | .find k => (foundQ root k).bind fun t => .ret t.data
  | .stretch lo hi => (stretchQ root lo hi).bind fun l => .ret (.list (l.map pairD))
  | .count lo hi => (countQ root lo hi).bind fun n => .ret (.int n)
  | .nth n => (nthQ root n).bind fun o => .ret (optD o)
  | .put k w => (putQ root k w).bind fun n => .ret (.int n)
  | .cut k => (cutQ root k).bind fun n => .ret (.int n)
noncomputable def alsoP (root : Int) : List Aq → List PyData → Prog (List PyData)
  | [], acc => .ret acc
  | a :: r, acc => (a.prog root).bind fun d => alsoP root r (acc ++ [d])
noncomputable def Ak.prog (root : Int) : Ak → Prog PyData
  | .one a => a.prog root
  | .also_ l => (alsoP root l []).bind fun ds => .ret (.list ds)

/-! ### how many steps they are -/
theorem le_if {α : Type} {c : Prop} [Decidable c] {p q : Prog α} {n : Nat} (h : p.le n) (k : q.le n) : (if c then p else q).le n := by
  split
  · exact h
  · exact k
theorem nodeP_le (root : Int) : (nodeP root).le 1 := by
  intro t
  dsimp only
  cases asNd t with
  | some d => exact le_ret _ _
  | none => exact le_bad _
theorem beneathP_le (root c : Int) : (beneathP root c).le 1 := le_bind _ _ (n := 0) (nodeP_le root) fun d => le_if (le_ret _ _) (le_bad _)
theorem sizeP_le (root : Int) : (sizeP root).le 1 := le_if (le_ret _ _) (le_bind _ _ (n := 0) (nodeP_le root) fun _ => le_ret _ _)
theorem sizeBP_le (root c : Int) : (sizeBP root c).le 1 := le_if (le_ret _ _) (le_bind _ _ (n := 0) (beneathP_le root c) fun _ => le_ret _ _)
theorem foundP_le : ∀ (f : Nat) (root : Int) (key : Ky) (c : Int), (foundP f root key c).le f
  | 0, _, _, _ => le_bad _
  | f + 1, root, key, c => le_if (le_ret _ _) (le_mono _ (by omega) (le_bind (n := f) _ _ (beneathP_le root c) fun d => le_if (le_ret _ _) (foundP_le f _ key d.c)))
theorem needP_le (d : Nd) : (needP d).le 2 := le_bind (m := 1) (n := 1) _ _ (sizeBP_le _ _) fun _ => le_bind (m := 1) (n := 0) _ _ (sizeBP_le _ _) fun _ => le_if (le_ret _ _) (le_bad _)
theorem stretchP_le : ∀ (f : Nat) (lo hi : Option Ky) (st : List SI) (acc : List (Ky × Th)), (stretchP f lo hi st acc).le (3 * f)
  | 0, _, _, _, _ => le_bad _
  | f + 1, _, _, [], _ => le_ret _ _
  | f + 1, lo, hi, .pr k w :: r, acc => le_mono _ (by omega) (stretchP_le f lo hi r (acc ++ [(k, w)]))
  | f + 1, lo, hi, .at_ root c :: r, acc => le_if (le_mono _ (by omega) (stretchP_le f lo hi r acc)) (le_mono _ (by omega) (le_bind (m := 1) (n := 2 + 3 * f) _ _ (beneathP_le root c) fun d =>
      le_bind (m := 2) _ _ (le_if (needP_le d) (le_ret _ _)) fun _ => stretchP_le f lo hi _ acc))
theorem aheadP_le : ∀ (f : Nat) (root : Int) (key : Ky) (many c : Int), (aheadP f root key many c).le (2 * f)
  | 0, _, _, _, _ => le_bad _
  | f + 1, root, key, many, c => le_if (le_ret _ _) (le_mono _ (by omega) (le_bind (m := 1) (n := 1 + 2 * f) _ _ (beneathP_le root c) fun d =>
      le_if (le_bind (m := 1) _ _ (sizeBP_le _ _) fun _ => le_ret _ _) (le_if (le_bind (m := 1) _ _ (sizeBP_le _ _) fun _ => aheadP_le f _ key _ _) (le_mono _ (by omega) (aheadP_le f _ key _ _)))))
theorem countQ_le (root : Int) (lo hi : Option Ky) : (countQ root lo hi).le 200 := by
  refine le_if (le_ret _ _) (le_mono _ (show 80 + (80 + 0) ≤ 200 by decide) (le_bind (m := 80) (n := 80 + 0) _ _ ?_ fun first => ?_))
  · cases lo with
    | none => exact le_ret _ _
    | some a => exact aheadP_le fuelP _ _ _ _
  · cases hi with
    | none => exact le_mono _ (by decide) (le_bind (m := 1) (n := 0) _ _ (sizeP_le root) fun _ => le_ret _ _)
    | some b => exact le_bind (m := 80) (n := 0) _ _ (aheadP_le fuelP _ _ _ _) fun _ => le_ret _ _
theorem nthP_le : ∀ (f : Nat) (root number c : Int), (nthP f root number c).le (2 * f)
  | 0, _, _, _ => le_bad _
  | f + 1, root, number, c => le_if (le_ret _ _) (le_mono _ (by omega) (le_bind (m := 1) (n := 1 + 2 * f) _ _ (beneathP_le root c) fun d =>
      le_bind (m := 1) _ _ (sizeBP_le _ _) fun m => le_if (le_ret _ _) (le_if (nthP_le f _ _ _) (nthP_le f _ _ _))))
theorem rebuiltP_le (key : Ky) (more : Int) : ∀ (way : List Nd) (root : Int), (rebuiltP key more way root).le way.length
  | [], _ => le_ret _ _
  | d :: r, root => le_if (fun n => rebuiltP_le key more r n) (fun n => rebuiltP_le key more r n)
/-- the post of a run without reads and lays told -/
def post {α : Type} : Prog α → (α → Prop) → Prop
  | .ret a, P => P a
  | .bad, _ => True
  | .rd _ k, P => ∀ t, post (k t) P
  | .ly _ k, P => ∀ n, post (k n) P
theorem post_bind {α β : Type} {P : α → Prop} {R : β → Prop} : ∀ (p : Prog α) (f : α → Prog β), post p P → (∀ a, P a → post (f a) R) → post (p.bind f) R
  | .ret a, f, h, k => k a h
  | .bad, _, _, _ => trivial
  | .rd n g, f, h, k => fun t => post_bind (g t) f (h t) k
  | .ly t g, f, h, k => fun n => post_bind (g n) f (h n) k
theorem post_true {α : Type} : ∀ p : Prog α, post p fun _ => True
  | .ret _ => trivial
  | .bad => trivial
  | .rd _ k => fun t => post_true (k t)
  | .ly _ k => fun n => post_true (k n)
theorem post_if {α : Type} {c : Prop} [Decidable c] {p q : Prog α} {P : α → Prop} (h : post p P) (k : post q P) : post (if c then p else q) P := by
  split
  · exact h
  · exact k
theorem le_bindP {α β : Type} {P : α → Prop} : ∀ (p : Prog α) (f : α → Prog β) {m n : Nat}, p.le m → post p P → (∀ a, P a → (f a).le n) → (p.bind f).le (m + n)
  | .ret a, f, m, n, _, h0, h => le_mono (f a) (by omega) (h a h0)
  | .bad, _, _, _, _, _, _ => le_bad _
  | .rd _ _, _, 0, _, h, _, _ => by simp [Prog.le] at h
  | .rd _ k, f, m + 1, n, h, h0, h2 => by
    rw [show m + 1 + n = (m + n) + 1 by omega]
    exact fun t => le_bindP (k t) f (h t) (h0 t) h2
  | .ly _ _, _, 0, _, h, _, _ => by simp [Prog.le] at h
  | .ly _ k, f, m + 1, n, h, h0, h2 => by
    rw [show m + 1 + n = (m + n) + 1 by omega]
    exact fun t => le_bindP (k t) f (h t) (h0 t) h2
theorem partDown_le : ∀ (f : Nat) (root : Int) (key : Ky) (c : Int) (way : List Nd), (partDown f root key c way).le f ∧ post (partDown f root key c way) fun w => w.length ≤ way.length + f
  | 0, _, _, _, _ => ⟨le_bad _, trivial⟩
  | f + 1, root, key, c, way => by
    have ih := fun d : Nd => partDown_le f (if ahead d.k key = true then d.r else d.l) key d.c (d :: way)
    refine ⟨le_if (le_ret _ _) (le_mono _ (by omega) (le_bind (n := f) _ _ (beneathP_le root c) fun d => (ih d).1)), post_if (by show way.length ≤ _; omega) (post_bind (P := fun _ => True) _ _ (post_true _) fun d _ => ?_)⟩
    have q := (ih d).2
    rw [List.length_cons, show way.length + 1 + f = way.length + (f + 1) by omega] at q
    exact q
theorem partBack_le (key : Ky) : ∀ (way : List Nd) (s : PSt), (partBack key way s).le way.length
  | [], _ => le_ret _ _
  | d :: r, s => le_if (fun _ => partBack_le key r _) (fun _ => partBack_le key r _)
theorem partQ_le (root : Int) (key : Ky) : (partQ root key).le 80 :=
  le_bindP (m := 40) (n := 40) _ _ (partDown_le fuelP root key 301 []).1 (partDown_le fuelP root key 301 []).2 fun w hw => le_mono _ (by simpa [fuelP] using hw) (partBack_le key w _)
theorem joinDown_le : ∀ (f : Nat) (l r o t : Int) (way : List (Nd × Bool × Int)), (joinDown f l r o t way).le (2 * f) ∧ post (joinDown f l r o t way) fun w => w.2.length ≤ way.length + f
  | 0, _, _, _, _, _ => ⟨le_bad _, trivial⟩
  | f + 1, l, r, o, t, way => by
    refine ⟨le_if (le_ret _ _) (le_mono _ (by omega) (le_bind (m := 1) (n := 1 + 2 * f) _ _ (beneathP_le _ _) fun a => le_bind (m := 1) _ _ (beneathP_le _ _) fun b => le_if (joinDown_le f _ _ _ _ _).1 (joinDown_le f _ _ _ _ _).1)),
      post_if (by show way.length ≤ _; omega) (post_bind (P := fun _ => True) _ _ (post_true _) fun a _ => post_bind (P := fun _ => True) _ _ (post_true _) fun b _ => post_if ?_ ?_)⟩
    · have q := (joinDown_le f a.r r a.c t ((a, true, a.c + b.c) :: way)).2
      rw [List.length_cons, show way.length + 1 + f = way.length + (f + 1) by omega] at q
      exact q
    · have q := (joinDown_le f l b.l o b.c ((b, false, a.c + b.c) :: way)).2
      rw [List.length_cons, show way.length + 1 + f = way.length + (f + 1) by omega] at q
      exact q
theorem joinBack_le : ∀ (way : List (Nd × Bool × Int)) (root : Int), (joinBack way root).le way.length
  | [], _ => le_ret _ _
  | (d, true, both) :: r, root => fun _ => joinBack_le r _
  | (d, false, both) :: r, root => fun _ => joinBack_le r _
theorem joinedQ_le (l r m : Int) : (joinedQ l r m).le 120 :=
  le_bindP (m := 80) (n := 40) _ _ (joinDown_le fuelP l r m m []).1 (joinDown_le fuelP l r m m []).2 fun w hw => le_mono _ (by simpa [fuelP] using hw) (joinBack_le w.2 w.1)
theorem putP_le : ∀ (f : Nat) (root : Int) (key : Ky) (worth : Th) (c : Int) (way : List Nd), (putP f root key worth c way).le (2 * f + way.length + 100)
  | 0, _, _, _, _, _ => le_bad _
  | f + 1, root, key, worth, c, way => by
    refine le_if (le_mono _ (show 1 + way.length ≤ _ by omega) ?_) (le_mono _ (show 1 + (2 * f + (way.length + 1) + 100) ≤ _ by omega) (le_bind (m := 1) _ _ (beneathP_le root c) fun d => le_if ?_ (le_if ?_ ?_)))
    · rw [Nat.add_comm]
      exact fun n => rebuiltP_le key 1 way n
    · refine le_mono _ (show way.length + 1 ≤ _ by omega) fun n => rebuiltP_le key 0 way n
    · refine le_mono _ (show 80 + (way.length + 1) ≤ _ by omega) (le_bind (m := 80) _ _ (partQ_le root key) fun p => fun n => rebuiltP_le key 1 way n)
    · exact putP_le f _ key worth d.c (d :: way)
theorem cutP_le (whole : Int) : ∀ (f : Nat) (root : Int) (key : Ky) (c : Int) (way : List Nd), (cutP whole f root key c way).le (2 * f + way.length + 130)
  | 0, _, _, _, _ => le_bad _
  | f + 1, root, key, c, way => by
    refine le_if (le_ret _ _) (le_mono _ (show 1 + (2 * f + (way.length + 1) + 130) ≤ _ by omega) (le_bind (m := 1) _ _ (beneathP_le root c) fun d => le_if ?_ ?_))
    · exact le_mono _ (show 120 + way.length ≤ _ by omega) (le_bind (m := 120) _ _ (joinedQ_le _ _ _) fun n => rebuiltP_le key (-1) way n)
    · exact cutP_le whole f _ key d.c (d :: way)
theorem aq_le (root : Int) (a : Aq) : (a.prog root).le 300 := by
  cases a with
  | find k => exact le_mono _ (show 40 + 0 ≤ 300 by decide) (le_bind (m := 40) (n := 0) _ _ (foundP_le fuelP _ _ _) fun _ => le_ret _ _)
  | stretch lo hi => exact le_bind (m := 300) (n := 0) _ _ (le_if (le_ret _ _) (stretchP_le fuelS _ _ _ _)) fun _ => le_ret _ _
  | count lo hi => exact le_mono _ (show 200 + 0 ≤ 300 by decide) (le_bind (m := 200) (n := 0) _ _ (countQ_le _ _ _) fun _ => le_ret _ _)
  | nth n => exact le_mono _ (show 80 + 0 ≤ 300 by decide) (le_bind (m := 80) (n := 0) _ _ (le_if (le_ret _ _) (nthP_le fuelP _ _ _)) fun _ => le_ret _ _)
  | put k w => exact le_mono _ (show 180 + 0 ≤ 300 by decide) (le_bind (m := 180) (n := 0) _ _ (putP_le fuelP _ _ _ _ []) fun _ => le_ret _ _)
  | cut k => exact le_mono _ (show 210 + 0 ≤ 300 by decide) (le_bind (m := 210) (n := 0) _ _ (cutP_le root fuelP _ _ _ []) fun _ => le_ret _ _)
theorem alsoP_le (root : Int) : ∀ (l : List Aq) (acc : List PyData), (alsoP root l acc).le (300 * l.length)
  | [], _ => le_ret _ _
  | a :: r, acc => le_mono _ (by rw [List.length_cons]; omega) (le_bind (m := 300) _ _ (aq_le root a) fun d => alsoP_le root r _)
theorem ak_le (root : Int) (a : Ak) (h : ∀ l, a = .also_ l → l.length ≤ 2) : (a.prog root).le 600 := by
  cases a with
  | one a => exact le_mono _ (by decide) (aq_le root a)
  | also_ l => exact le_mono _ (by have := h l rfl; omega) (le_bind (m := 300 * l.length) (n := 0) _ _ (alsoP_le root l []) fun _ => le_ret _ _)
end PV
set_option Elab.async false
set_option linter.all false
set_option maxRecDepth 100000
/-! Trees; what the reads and lays do where a vault holds a tree. -/
namespace PV
open PySem

inductive Tr where
  | lf
  | nd (l : Tr) (k : Ky) (w : Th) (r : Tr)
def Tr.sz : Tr → Nat
  | .lf => 0
  | .nd l _ _ r => l.sz + r.sz + 1
def Tr.toL : Tr → List (Ky × Th)
  | .lf => []
  | .nd l k w r => l.toL ++ (k, w) :: r.toL
def Tr.root : Tr → Int
  | .lf => 0
  | .nd l k w r => sealOf (Nd.th ⟨k, w, l.root, r.root, ((l.sz + r.sz + 1 : Nat) : Int)⟩)
def top (l : Tr) (k : Ky) (w : Th) (r : Tr) : Nd := ⟨k, w, l.root, r.root, ((l.sz + r.sz + 1 : Nat) : Int)⟩
theorem root_nd (l : Tr) (k : Ky) (w : Th) (r : Tr) : (Tr.nd l k w r).root = sealOf (top l k w r).th := rfl
theorem root_pos (l : Tr) (k : Ky) (w : Th) (r : Tr) : (Tr.nd l k w r).root ≠ 0 := by
  have := (sealOf_range (top l k w r).th).1
  rw [root_nd]
  omega
theorem root_range (t : Tr) : 0 ≤ t.root ∧ t.root ≤ mostSeal := by
  cases t with
  | lf => exact ⟨Int.le_refl 0, by decide⟩
  | nd l k w r =>
    have := sealOf_range (top l k w r).th
    rw [root_nd]
    omega
theorem toL_len : ∀ t : Tr, t.toL.length = t.sz
  | .lf => rfl
  | .nd l k w r => by
    have h1 := toL_len l
    have h2 := toL_len r
    unfold Tr.toL Tr.sz
    rw [List.length_append, List.length_cons, h1, h2]
    omega
/-- keys and worths that may be laid -/
def Tr.ok : Tr → Prop
  | .lf => True
  | .nd l k w r => (k.okK = true ∧ w ≠ .non ∧ w.fitW = true) ∧ l.ok ∧ r.ok
theorem within4_key {k : Ky} (h : k.okK = true) : k.th.within 4 = true := within_mono 0 4 _ (by decide) h
theorem nd_within {d : Nd} (h1 : d.k.okK = true) (h2 : d.w.fitW = true) (h3 : -mostNum ≤ d.l ∧ d.l ≤ mostNum) (h4 : -mostNum ≤ d.r ∧ d.r ≤ mostNum) (h5 : -mostNum ≤ d.c ∧ d.c ≤ mostNum) : d.th.fit = true := by
  have hw := fitW_iff.mp h2
  have hk := okK_len h1
  rw [fit_iff]
  unfold Nd.th
  rw [Th.within, Bool.and_eq_true]
  refine ⟨⟨by simp, withinL_of fun a ha => ?_⟩, ?_⟩
  · simp only [List.mem_cons, List.not_mem_nil, or_false] at ha
    rcases ha with rfl | rfl | rfl | rfl | rfl
    · exact within4_key h1
    · exact hw.1
    · simp [Th.within]; exact h3
    · simp [Th.within]; exact h4
    · simp [Th.within]; exact h5
  · simp only [Th.codes, Th.codesL, List.length_append, List.length_cons, List.length_nil]
    omega
theorem root_num (t : Tr) : -mostNum ≤ t.root ∧ t.root ≤ mostNum := by
  have := root_range t
  have e1 : mostSeal = 2305843009213693951 := rfl
  have e2 : mostNum = 1000000000000000000000000000000 := rfl
  omega
theorem nat_num {n : Nat} (h : n ≤ 1000) : -mostNum ≤ (n : Int) ∧ (n : Int) ≤ mostNum := by
  have e2 : mostNum = 1000000000000000000000000000000 := rfl
  omega
theorem top_within {l : Tr} {k : Ky} {w : Th} {r : Tr} (h : (Tr.nd l k w r).ok) (hz : (Tr.nd l k w r).sz ≤ 1000) : (top l k w r).th.fit = true :=
  nd_within h.1.1 h.1.2.2 (root_num l) (root_num r) (nat_num hz)
theorem top_ok {l : Tr} {k : Ky} {w : Th} {r : Tr} (h : (Tr.nd l k w r).ok) (hz : (Tr.nd l k w r).sz ≤ 300) : (top l k w r).Ok := by
  have hz' : l.sz + r.sz + 1 ≤ 300 := hz
  exact ⟨top_within h (by omega), h.1.2.1, (root_range l).1, (root_range r).1, by show (1 : Int) ≤ ((l.sz + r.sz + 1 : Nat) : Int); omega, by show ((l.sz + r.sz + 1 : Nat) : Int) ≤ 300; omega⟩

/-! ### a vault that holds a tree -/
def Holds (g : Int → Option Th) : Tr → Prop
  | .lf => True
  | .nd l k w r => g (Tr.nd l k w r).root = some (top l k w r).th ∧ Holds g l ∧ Holds g r
theorem Holds.mono {g g' : Int → Option Th} (h : ∀ n t, g n = some t → g' n = some t) : ∀ {t : Tr}, Holds g t → Holds g' t
  | .lf, _ => trivial
  | .nd _ _ _ _, ⟨a, b, c⟩ => ⟨h _ _ a, Holds.mono h b, Holds.mono h c⟩
structure Stt (g : Int → Option Th) (s : VS) (m : Nat) : Prop where
  ok : s.Ok
  agr : s.Agr
  view : ∀ n t, g n = some t → s.view n = some t
  o : s.own.length + m ≤ cap
  nt : s.noted.length + m ≤ cap
theorem Stt.less {g : Int → Option Th} {s : VS} {m n : Nat} (S : Stt g s m) (h : n ≤ m) : Stt g s n := ⟨S.ok, S.agr, S.view, by have := S.o; omega, by have := S.nt; omega⟩
section
variable {g : Int → Option Th} {s : VS} {m : Nat} {N : Prop} {C : Th → Th → Prop}
theorem rd_ok {n : Int} {t : Th} {α : Type} {f : Th → Prog α} {Q : α → VS → Prop} (S : Stt g s (m + 1)) (h : g n = some t) (hQ : ∀ s', Stt g s' m → s'.own = s.own → s'.below = s.below → wpr (f t) s' Q N C) : wpr (.rd n f) s Q N C := by
  have q := get_ok (n := n) S.ok S.agr
  have hv := S.view n t h
  have h1 := S.o
  have h2 := S.nt
  unfold wpr run
  cases e : s.get n with
  | got t' s' =>
    rw [e] at q
    obtain ⟨q1, q2, q3, q4, q5, q6, q7, q8⟩ := q
    rw [hv] at q1
    cases q1
    refine hQ s' ⟨q2, q3, fun i u hi => ?_, by rw [q5]; omega, by omega⟩ q5 q4.below
    have z := S.view i u hi
    unfold VS.view at z ⊢
    rw [q5, q4.below]
    exact z
  | lacks => rw [e] at q; rw [hv] at q; cases q
  | over => rw [e] at q; dsimp only at q; omega
theorem ly_ok {t : Th} {α : Type} {f : Int → Prog α} {Q : α → VS → Prop} (S : Stt g s (m + 1)) (hw : t.fit = true) (hQ : ∀ s', Stt g s' m → (∀ n x, s.view n = some x → s'.view n = some x) → s'.view (sealOf t) = some t → wpr (f (sealOf t)) s' Q N fun _ _ => True) :
    wpr (.ly t f) s Q N fun _ _ => True := by
  have q := lay_ok (t := t) S.ok S.agr
  have h1 := S.o
  have h2 := S.nt
  unfold wpr run
  cases e : s.lay t with
  | ok n s' =>
    rw [e] at q
    obtain ⟨rfl, q2, q3, q4, q5, q6, q7, q8, _⟩ := q
    have vw : ∀ i x, s.view i = some x → s'.view i = some x := fun i x hi => q4.view q2 q3 hi
    refine hQ s' ⟨q2, q3, fun i u hi => vw i u (S.view i u hi), by omega, by rw [q7]; omega⟩ vw ?_
    unfold VS.view
    rw [q5]; rfl
  | clash x y => trivial
  | over =>
    rw [e] at q
    rcases q with q | q
    · rw [hw] at q; cases q
    · omega
theorem node_ok {l : Tr} {k : Ky} {w : Th} {r : Tr} {Q : Nd → VS → Prop} (S : Stt g s (m + 1)) (h : Holds g (.nd l k w r)) (ok : (Tr.nd l k w r).ok) (hz : (Tr.nd l k w r).sz ≤ 300) (hQ : ∀ s', Stt g s' m → s'.own = s.own → s'.below = s.below → Q (top l k w r) s') : wpr (nodeP (Tr.nd l k w r).root) s Q N C := by
  refine rd_ok S h.1 fun s' S' e1 e2 => ?_
  rw [asNd_th (top_ok ok hz)]
  exact hQ s' S' e1 e2
theorem beneath_ok {l : Tr} {k : Ky} {w : Th} {r : Tr} {c : Int} {Q : Nd → VS → Prop} (S : Stt g s (m + 1)) (h : Holds g (.nd l k w r)) (ok : (Tr.nd l k w r).ok) (hz : (Tr.nd l k w r).sz ≤ 300) (hc : ((Tr.nd l k w r).sz : Int) < c)
    (hQ : ∀ s', Stt g s' m → s'.own = s.own → s'.below = s.below → Q (top l k w r) s') : wpr (beneathP (Tr.nd l k w r).root c) s Q N C := by
  unfold wpr beneathP
  rw [show (run ((nodeP (Tr.nd l k w r).root).bind fun d => if d.c < c then .ret d else .bad) s).wp Q N C = _ from wp_bind _ _ _ _ _ _]
  refine node_ok S h ok hz fun s' S' e1 e2 => ?_
  have hc' : (top l k w r).c < c := hc
  rw [if_pos hc']
  exact hQ s' S' e1 e2
theorem size_ok {t : Tr} {Q : Int → VS → Prop} (S : Stt g s (m + 1)) (h : Holds g t) (ok : t.ok) (hz : t.sz ≤ 300) (hQ : ∀ s', Stt g s' m → s'.own = s.own → s'.below = s.below → Q (t.sz : Int) s') : wpr (sizeP t.root) s Q N C := by
  unfold sizeP
  cases t with
  | lf => exact hQ s (S.less (by omega)) rfl rfl
  | nd l k w r =>
    rw [if_neg (root_pos l k w r)]
    rw [show wpr ((nodeP (Tr.nd l k w r).root).bind fun d => .ret d.c) s Q N C = _ from wp_bind _ _ _ _ _ _]
    exact node_ok S h ok hz fun s' S' e1 e2 => hQ s' S' e1 e2
theorem sizeB_ok {t : Tr} {c : Int} {Q : Int → VS → Prop} (S : Stt g s (m + 1)) (h : Holds g t) (ok : t.ok) (hz : t.sz ≤ 300) (hc : (t.sz : Int) < c) (hQ : ∀ s', Stt g s' m → s'.own = s.own → s'.below = s.below → Q (t.sz : Int) s') : wpr (sizeBP t.root c) s Q N C := by
  unfold sizeBP
  cases t with
  | lf => exact hQ s (S.less (by omega)) rfl rfl
  | nd l k w r =>
    rw [if_neg (root_pos l k w r)]
    rw [show wpr ((beneathP (Tr.nd l k w r).root c).bind fun d => .ret d.c) s Q N C = _ from wp_bind _ _ _ _ _ _]
    exact beneath_ok S h ok hz hc fun s' S' e1 e2 => hQ s' S' e1 e2
/-- one turn: a node is read -/
theorem turn_ok {l : Tr} {k : Ky} {w : Th} {r : Tr} {c : Int} {α : Type} {f : Nd → Prog α} {Q : α → VS → Prop} (S : Stt g s (m + 1)) (h : Holds g (.nd l k w r)) (ok : (Tr.nd l k w r).ok) (hz : (Tr.nd l k w r).sz ≤ 300) (hc : ((Tr.nd l k w r).sz : Int) < c)
    (hQ : ∀ s', Stt g s' m → s'.own = s.own → s'.below = s.below → wpr (f (top l k w r)) s' Q N C) : wpr ((beneathP (Tr.nd l k w r).root c).bind f) s Q N C := by
  rw [show wpr ((beneathP (Tr.nd l k w r).root c).bind f) s Q N C = _ from wp_bind _ _ _ _ _ _]
  exact beneath_ok S h ok hz hc hQ
theorem sizeB_turn {t : Tr} {c : Int} {α : Type} {f : Int → Prog α} {Q : α → VS → Prop} (S : Stt g s (m + 1)) (h : Holds g t) (ok : t.ok) (hz : t.sz ≤ 300) (hc : (t.sz : Int) < c) (hQ : ∀ s', Stt g s' m → s'.own = s.own → s'.below = s.below → wpr (f (t.sz : Int)) s' Q N C) : wpr ((sizeBP t.root c).bind f) s Q N C := by
  rw [show wpr ((sizeBP t.root c).bind f) s Q N C = _ from wp_bind _ _ _ _ _ _]
  exact sizeB_ok S h ok hz hc hQ
end

/-! ### sorted pairs -/
def Srt (L : List (Ky × Th)) : Prop := L.Pairwise fun a b => ahead a.1 b.1 = true
theorem srt_nd {A B : List (Ky × Th)} {k : Ky} {w : Th} (h : Srt (A ++ (k, w) :: B)) : Srt A ∧ Srt B ∧ (∀ p ∈ A, ahead p.1 k = true) ∧ (∀ p ∈ B, ahead k p.1 = true) ∧ ∀ p ∈ A, ∀ q ∈ B, ahead p.1 q.1 = true := by
  unfold Srt at h
  rw [List.pairwise_append, List.pairwise_cons] at h
  obtain ⟨h1, ⟨h2, h3⟩, h4⟩ := h
  exact ⟨h1, h3, fun p hp => h4 p hp (k, w) List.mem_cons_self, fun p hp => h2 p hp, fun p hp q hq => h4 p hp q (List.mem_cons_of_mem _ hq)⟩
theorem srt_mk {A B : List (Ky × Th)} {k : Ky} {w : Th} (h1 : Srt A) (h2 : Srt B) (h3 : ∀ p ∈ A, ahead p.1 k = true) (h4 : ∀ p ∈ B, ahead k p.1 = true) : Srt (A ++ (k, w) :: B) := by
  unfold Srt
  rw [List.pairwise_append, List.pairwise_cons]
  refine ⟨h1, ⟨fun p hp => h4 p hp, h2⟩, fun p hp q hq => ?_⟩
  rcases List.mem_cons.mp hq with rfl | hq
  · exact h3 p hp
  · exact ahead_trans (h3 p hp) (h4 q hq)
theorem srt_nodup {L : List (Ky × Th)} (h : Srt L) : (L.map (·.1)).Nodup := by
  unfold Srt at h
  exact List.pairwise_map.mpr (h.imp fun {a b} hab => ahead_ne hab)
theorem lk_cons {κ β : Type} [DecidableEq κ] (p : κ × β) (r : List (κ × β)) (k : κ) : lk (p :: r) k = if p.1 = k then some p.2 else lk r k := rfl
theorem lk_app {κ β : Type} [DecidableEq κ] (A B : List (κ × β)) (k : κ) : lk (A ++ B) k = (lk A k).or (lk B k) := by
  induction A with
  | nil => rfl
  | cons p r ih =>
    rw [List.cons_append, lk_cons, lk_cons]
    by_cases e : p.1 = k
    · rw [if_pos e, if_pos e]; rfl
    · rw [if_neg e, if_neg e, ih]
theorem lk_filter {κ β : Type} [DecidableEq κ] (P : κ → Bool) (L : List (κ × β)) (k : κ) : lk (L.filter fun p => P p.1) k = if P k = true then lk L k else none := by
  induction L with
  | nil => simp [lk]
  | cons p r ih =>
    rw [List.filter_cons]
    by_cases hp : P p.1 = true
    · rw [if_pos hp, lk_cons, lk_cons]
      by_cases e : p.1 = k
      · rw [if_pos e, if_pos e, ← e, if_pos hp]
      · rw [if_neg e, if_neg e, ih]
    · rw [if_neg hp, ih]
      by_cases hk : P k = true
      · rw [if_pos hk, if_pos hk]
        have e : ¬ p.1 = k := fun z => by rw [z] at hp; exact hp hk
        show _ = if p.1 = k then some p.2 else lk r k
        rw [if_neg e]
      · rw [if_neg hk, if_neg hk]
theorem lk_notin {κ β : Type} [DecidableEq κ] {L : List (κ × β)} {k : κ} (h : ∀ p ∈ L, p.1 ≠ k) : lk L k = none := by
  rw [lk_none]
  intro hm
  obtain ⟨p, hp, e⟩ := List.mem_map.mp hm
  exact h p hp e
theorem filter_none {L : List (Ky × Th)} {P : Ky × Th → Bool} (h : ∀ p ∈ L, P p = false) : L.filter P = [] := by
  rw [List.filter_eq_nil_iff]
  intro p hp
  rw [h p hp]
  decide
theorem filter_all {L : List (Ky × Th)} {P : Ky × Th → Bool} (h : ∀ p ∈ L, P p = true) : L.filter P = L := List.filter_eq_self.mpr h

/-! ### found -/
def findT (key : Ky) : Tr → Th
  | .lf => .non
  | .nd l k w r => if k = key then w else if ahead key k = true then findT key l else findT key r
theorem found_ok {g : Int → Option Th} {N : Prop} {C : Th → Th → Prop} {key : Ky} {Q : Th → VS → Prop} {m : Nat} : ∀ (t : Tr) (f : Nat) (c : Int) (s : VS), Stt g s (m + t.sz) → Holds g t → t.ok → t.sz ≤ 300 → (t.sz : Int) < c → t.sz < f → (∀ s', Stt g s' m → Q (findT key t) s') → wpr (foundP f t.root key c) s Q N C
  | _, 0, _, _, _, _, _, _, _, hf, _ => by omega
  | .lf, f + 1, c, s, S, _, _, _, _, _, hQ => hQ s S
  | .nd l k w r, f + 1, c, s, S, h, ok, hz, hc, hf, hQ => by
    have hz' : l.sz + r.sz + 1 ≤ 300 := hz
    have hf' : l.sz + r.sz + 1 < f + 1 := hf
    unfold foundP
    rw [if_neg (root_pos l k w r)]
    refine turn_ok (m := m + (l.sz + r.sz)) (S.less (by show _ ≤ m + (l.sz + r.sz + 1); omega)) h ok hz hc fun s' S' _ _ => ?_
    show wpr (if k = key then _ else _) s' Q N C
    unfold findT at hQ
    by_cases e : k = key
    · rw [if_pos e] at hQ ⊢
      exact hQ s' (S'.less (by omega))
    · rw [if_neg e] at hQ ⊢
      show wpr (foundP f (if ahead key k = true then l.root else r.root) key ((l.sz + r.sz + 1 : Nat) : Int)) s' Q N C
      by_cases a : ahead key k = true
      · rw [if_pos a] at hQ ⊢
        exact found_ok l f _ s' (S'.less (by omega)) h.2.1 ok.2.1 (by omega) (by omega) (by omega) hQ
      · rw [if_neg a] at hQ ⊢
        exact found_ok r f _ s' (S'.less (by omega)) h.2.2 ok.2.2 (by omega) (by omega) (by omega) hQ
theorem findT_lk {key : Ky} : ∀ {t : Tr}, Srt t.toL → findT key t = (lk t.toL key).getD .non
  | .lf, _ => rfl
  | .nd l k w r, h => by
    obtain ⟨h1, h2, h3, h4, _⟩ := srt_nd h
    unfold findT Tr.toL
    rw [lk_app]
    by_cases e : k = key
    · rw [if_pos e]
      have hl : lk l.toL key = none := lk_notin fun p hp => e ▸ ahead_ne (h3 p hp)
      rw [hl]
      show w = ((if k = key then some w else lk r.toL key)).getD .non
      rw [if_pos e]; rfl
    · rw [if_neg e]
      by_cases a : ahead key k = true
      · rw [if_pos a, findT_lk h1]
        have hr : lk ((k, w) :: r.toL) key = none := lk_notin fun p hp => by
          rcases List.mem_cons.mp hp with rfl | hp
          · exact e
          · exact fun z => ahead_ne (ahead_trans a (h4 p hp)) z.symm
        rw [hr, Option.or_none]
      · rw [if_neg a, findT_lk h2]
        have a' := ahead_not (by simpa using a) (fun z => e z.symm)
        have hl : lk l.toL key = none := lk_notin fun p hp => ahead_ne (ahead_trans (h3 p hp) a')
        rw [hl]
        show _ = ((if k = key then some w else lk r.toL key)).getD .non
        rw [if_neg e]

/-! ### stretches -/
theorem stretch_fuel {lo hi : Option Ky} {Q : List (Ky × Th) → VS → Prop} {N : Prop} {C : Th → Th → Prop} : ∀ (f : Nat) (st : List SI) (acc : List (Ky × Th)) (s : VS), wpr (stretchP f lo hi st acc) s Q N C → wpr (stretchP (f + 1) lo hi st acc) s Q N C
  | 0, st, acc, s, h => h.elim
  | f + 1, [], acc, s, h => h
  | f + 1, .pr k w :: r, acc, s, h => stretch_fuel f r _ s h
  | f + 1, .at_ root c :: r, acc, s, h => by
    unfold stretchP at h ⊢
    by_cases e : root = 0
    · rw [if_pos e] at h ⊢
      exact stretch_fuel f r acc s h
    · rw [if_neg e] at h ⊢
      rw [show wpr ((beneathP root c).bind _) s Q N C = _ from wp_bind _ _ _ _ _ _] at h ⊢
      refine wp_mono h (fun d s' h => ?_) id fun _ _ z => z
      rw [show wpr (Prog.bind _ _) s' Q N C = _ from wp_bind _ _ _ _ _ _] at h ⊢
      exact wp_mono h (fun _ s2 h => stretch_fuel f _ acc s2 h) id fun _ _ z => z
theorem stretch_fuel' {lo hi : Option Ky} {Q : List (Ky × Th) → VS → Prop} {N : Prop} {C : Th → Th → Prop} {f f' : Nat} {st : List SI} {acc : List (Ky × Th)} {s : VS} (hf : f ≤ f') (h : wpr (stretchP f lo hi st acc) s Q N C) : wpr (stretchP f' lo hi st acc) s Q N C := by
  obtain ⟨j, rfl⟩ : ∃ j, f' = f + j := ⟨f' - f, by omega⟩
  induction j with
  | zero => exact h
  | succ j ih => exact stretch_fuel _ _ _ _ (ih (by omega))
def cut_ (lo hi : Option Ky) (L : List (Ky × Th)) : List (Ky × Th) := L.filter fun p => isIn lo hi p.1
theorem stretch_ok {g : Int → Option Th} {N : Prop} {C : Th → Th → Prop} {lo hi : Option Ky} {Q : List (Ky × Th) → VS → Prop} : ∀ (t : Tr) (f m : Nat) (c : Int) (s : VS) (rest : List SI) (acc : List (Ky × Th)), Stt g s (m + 3 * t.sz) → Holds g t → t.ok → t.sz ≤ 300 → (t.sz : Int) < c → Srt t.toL →
    (∀ s', Stt g s' m → wpr (stretchP f lo hi rest (acc ++ cut_ lo hi t.toL)) s' Q N C) → wpr (stretchP (f + (3 * t.sz + 1)) lo hi (.at_ t.root c :: rest) acc) s Q N C
  | .lf, f, m, c, s, rest, acc, S, _, _, _, _, _, hQ => by
    have q := hQ s S
    unfold cut_ Tr.toL at q
    rw [List.filter_nil, List.append_nil] at q
    exact q
  | .nd l k w r, f, m, c, s, rest, acc, S, h, ok, hz, hc, hs, hQ => by
    have hz' : l.sz + r.sz + 1 ≤ 300 := hz
    obtain ⟨h1, h2, h3, h4, _⟩ := srt_nd hs
    have ef : f + (3 * (Tr.nd l k w r).sz + 1) = (f + (3 * l.sz + 1) + (3 * r.sz + 1) + 1) + 1 := by show f + (3 * (l.sz + r.sz + 1) + 1) = _; omega
    rw [ef]
    unfold stretchP
    rw [if_neg (root_pos l k w r)]
    have S0 : Stt g s ((m + 3 * r.sz + 3 * l.sz + 2) + 1) := S.less (by show _ ≤ m + 3 * (l.sz + r.sz + 1); omega)
    refine turn_ok S0 h ok hz hc fun s1 S1 _ _ => ?_
    -- behind the sizes
    have go : ∀ s2, Stt g s2 (m + 3 * r.sz + 3 * l.sz) → wpr (stretchP (f + (3 * l.sz + 1) + (3 * r.sz + 1) + 1) lo hi (pushed lo hi (top l k w r) rest) acc) s2 Q N C := by
      intro s2 S2
      have tl : cut_ lo hi (Tr.nd l k w r).toL = cut_ lo hi l.toL ++ ((if isIn lo hi k = true then [(k, w)] else []) ++ cut_ lo hi r.toL) := by
        unfold cut_
        rw [show (Tr.nd l k w r).toL = l.toL ++ (k, w) :: r.toL from rfl, List.filter_append, List.filter_cons]
        congr 1
        by_cases e : isIn lo hi k = true
        · rw [if_pos e, if_pos e]; rfl
        · rw [if_neg e, if_neg e]; rfl
      rw [tl] at hQ
      -- the right tree
      have right : ∀ (f0 : Nat) (s3 : VS) (acc' : List (Ky × Th)), f ≤ f0 → Stt g s3 (m + 3 * r.sz) → acc' ++ cut_ lo hi r.toL = acc ++ (cut_ lo hi l.toL ++ ((if isIn lo hi k = true then [(k, w)] else []) ++ cut_ lo hi r.toL)) →
          wpr (stretchP (f0 + (3 * r.sz + 1)) lo hi ((if goesR hi k = true then [SI.at_ r.root ((l.sz + r.sz + 1 : Nat) : Int)] else []) ++ rest) acc') s3 Q N C := by
        intro f0 s3 acc' hf0 S3 ea
        by_cases a : goesR hi k = true
        · rw [if_pos a]
          refine stretch_ok r f0 m _ s3 rest acc' S3 h.2.2 ok.2.2 (by omega) (by omega) h2 fun s4 S4 => ?_
          rw [ea]
          exact stretch_fuel' hf0 (hQ s4 S4)
        · rw [if_neg a]
          have er : cut_ lo hi r.toL = [] := filter_none fun p hp => by
            have hk := h4 p hp
            unfold isIn
            cases hi with
            | none => exact absurd rfl a
            | some b =>
              have a' : ahead k b = false := by simpa [goesR] using a
              have : ahead p.1 b = false := by
                cases e : ahead p.1 b with
                | false => rfl
                | true => rw [ahead_trans hk e] at a'; cases a'
              simp [goesR, this]
          rw [er] at ea hQ
          rw [List.append_nil] at ea
          rw [ea]
          exact stretch_fuel' (by omega) (hQ s3 (S3.less (by omega)))
      -- the pair
      have pair : ∀ (f0 : Nat) (s3 : VS) (acc' : List (Ky × Th)), f ≤ f0 → Stt g s3 (m + 3 * r.sz) → acc' = acc ++ cut_ lo hi l.toL →
          wpr (stretchP (f0 + (3 * r.sz + 1) + 1) lo hi ((if isIn lo hi k = true then [SI.pr k w] else []) ++ ((if goesR hi k = true then [SI.at_ r.root ((l.sz + r.sz + 1 : Nat) : Int)] else []) ++ rest)) acc') s3 Q N C := by
        intro f0 s3 acc' hf0 S3 ea
        by_cases a : isIn lo hi k = true
        · rw [if_pos a]
          show wpr (stretchP (f0 + (3 * r.sz + 1)) lo hi _ (acc' ++ [(k, w)])) s3 Q N C
          refine right f0 s3 _ hf0 S3 ?_
          rw [if_pos a, ea, List.append_assoc, List.append_assoc]
        · rw [if_neg a]
          refine stretch_fuel _ _ _ _ (right f0 s3 acc' hf0 S3 ?_)
          rw [if_neg a, ea, List.append_assoc]; rfl
      -- the left tree
      unfold pushed
      show wpr (stretchP _ lo hi ((if goesL lo k = true then [SI.at_ l.root ((l.sz + r.sz + 1 : Nat) : Int)] else []) ++ ((if isIn lo hi k = true then [SI.pr k w] else []) ++ ((if goesR hi k = true then [SI.at_ r.root ((l.sz + r.sz + 1 : Nat) : Int)] else []) ++ rest))) acc) s2 Q N C
      by_cases a : goesL lo k = true
      · rw [if_pos a, show f + (3 * l.sz + 1) + (3 * r.sz + 1) + 1 = (f + (3 * r.sz + 1) + 1) + (3 * l.sz + 1) by omega]
        exact stretch_ok l _ (m + 3 * r.sz) _ s2 _ acc S2 h.2.1 ok.2.1 (by omega) (by omega) h1 fun s3 S3 => pair f s3 _ (Nat.le_refl _) S3 rfl
      · rw [if_neg a]
        have el : cut_ lo hi l.toL = [] := filter_none fun p hp => by
          have hk := h3 p hp
          unfold isIn
          cases lo with
          | none => exact absurd rfl a
          | some b =>
            have a' : ahead b k = false := by simpa [goesL] using a
            have : ahead p.1 b = true := by
              rcases ahead_tri p.1 b with e | e | e
              · exact e
              · rw [← e, hk] at a'; cases a'
              · rw [ahead_trans e hk] at a'; cases a'
            simp [notBelow, this]
        exact pair (f + (3 * l.sz + 1)) s2 acc (by omega) (S2.less (by omega)) (by rw [el, List.append_nil])
    rw [show wpr (Prog.bind _ _) s1 Q N C = _ from wp_bind _ _ _ _ _ _]
    by_cases a : (goesL lo (top l k w r).k && goesR hi (top l k w r).k) = true
    · rw [if_pos a]
      unfold needP
      refine sizeB_turn (t := l) (m := (m + 3 * r.sz + 3 * l.sz) + 1) S1 h.2.1 ok.2.1 (by omega) (show (l.sz : Int) < ((l.sz + r.sz + 1 : Nat) : Int) by omega) fun s2 S2 _ _ => ?_
      refine sizeB_turn (t := r) (m := m + 3 * r.sz + 3 * l.sz) S2 h.2.2 ok.2.2 (by omega) (show (r.sz : Int) < ((l.sz + r.sz + 1 : Nat) : Int) by omega) fun s3 S3 _ _ => ?_
      rw [if_pos (show (l.sz : Int) + (r.sz : Int) + 1 = (top l k w r).c by show (l.sz : Int) + (r.sz : Int) + 1 = ((l.sz + r.sz + 1 : Nat) : Int); omega)]
      exact go s3 S3
    · rw [if_neg a]
      exact go s1 (S1.less (by omega))

/-! ### counts -/
def nAhead (key : Ky) (L : List (Ky × Th)) : Nat := (L.filter fun p => ahead p.1 key).length
theorem nAhead_nd {key : Ky} {A B : List (Ky × Th)} {k : Ky} {w : Th} : nAhead key (A ++ (k, w) :: B) = nAhead key A + ((if ahead k key = true then 1 else 0) + nAhead key B) := by
  unfold nAhead
  rw [List.filter_append, List.length_append, List.filter_cons]
  by_cases e : ahead k key = true
  · rw [if_pos e, if_pos e, List.length_cons]; omega
  · rw [if_neg e, if_neg e]; omega
theorem nAhead_all {key : Ky} {L : List (Ky × Th)} (h : ∀ p ∈ L, ahead p.1 key = true) : nAhead key L = L.length := by
  unfold nAhead
  rw [filter_all h]
theorem nAhead_none {key : Ky} {L : List (Ky × Th)} (h : ∀ p ∈ L, ahead p.1 key = false) : nAhead key L = 0 := by
  unfold nAhead
  rw [filter_none h]; rfl
theorem ahead_ok {g : Int → Option Th} {N : Prop} {C : Th → Th → Prop} {key : Ky} {Q : Int → VS → Prop} {m : Nat} : ∀ (t : Tr) (f : Nat) (many c : Int) (s : VS), Stt g s (m + 2 * t.sz) → Holds g t → t.ok → t.sz ≤ 300 → (t.sz : Int) < c → t.sz < f → Srt t.toL →
    (∀ s', Stt g s' m → Q (many + (nAhead key t.toL : Int)) s') → wpr (aheadP f t.root key many c) s Q N C
  | _, 0, _, _, _, _, _, _, _, _, hf, _, _ => by omega
  | .lf, f + 1, many, c, s, S, _, _, _, _, _, _, hQ => by
    have q := hQ s S
    rw [show many + (nAhead key Tr.lf.toL : Int) = many from Int.add_zero many] at q
    exact q
  | .nd l k w r, f + 1, many, c, s, S, h, ok, hz, hc, hf, hs, hQ => by
    have hz' : l.sz + r.sz + 1 ≤ 300 := hz
    have hf' : l.sz + r.sz + 1 < f + 1 := hf
    obtain ⟨h1, h2, h3, h4, _⟩ := srt_nd hs
    have el := toL_len l
    have er := toL_len r
    rw [show (Tr.nd l k w r).toL = l.toL ++ (k, w) :: r.toL from rfl, nAhead_nd] at hQ
    unfold aheadP
    rw [if_neg (root_pos l k w r)]
    refine turn_ok (m := m + 2 * (l.sz + r.sz) + 1) (S.less (by show _ ≤ m + 2 * (l.sz + r.sz + 1); omega)) h ok hz hc fun s1 S1 _ _ => ?_
    show wpr (if k = key then (sizeBP l.root ((l.sz + r.sz + 1 : Nat) : Int)).bind _ else if ahead k key = true then (sizeBP r.root ((l.sz + r.sz + 1 : Nat) : Int)).bind _ else aheadP f l.root key many ((l.sz + r.sz + 1 : Nat) : Int)) s1 Q N C
    by_cases e : k = key
    · rw [if_pos e]
      refine sizeB_turn (t := l) (m := m + 2 * (l.sz + r.sz)) S1 h.2.1 ok.2.1 (by omega) (by omega) fun s2 S2 _ _ => ?_
      have q := hQ s2 (S2.less (by omega))
      rw [nAhead_all fun p hp => e ▸ h3 p hp, nAhead_none (L := r.toL) fun p hp => ahead_asymm (e ▸ h4 p hp), ← e, ahead_irrefl, el] at q
      show Q (many + (l.sz : Int)) s2
      simpa using q
    · rw [if_neg e]
      by_cases a : ahead k key = true
      · rw [if_pos a]
        refine sizeB_turn (t := r) (m := m + 2 * (l.sz + r.sz)) S1 h.2.2 ok.2.2 (by omega) (by omega) fun s2 S2 _ _ => ?_
        refine ahead_ok (m := m) r f _ _ s2 (S2.less (by omega)) h.2.2 ok.2.2 (by omega) (by show _ < ((l.sz + r.sz + 1 : Nat) : Int); omega) (by omega) h2 fun s3 S3 => ?_
        have q := hQ s3 S3
        rw [nAhead_all fun p hp => ahead_trans (h3 p hp) a, if_pos a, el] at q
        show Q (many + (((l.sz + r.sz + 1 : Nat) : Int) - (r.sz : Int)) + (nAhead key r.toL : Int)) s3
        rw [show many + (((l.sz + r.sz + 1 : Nat) : Int) - (r.sz : Int)) + (nAhead key r.toL : Int) = many + ((l.sz + (1 + nAhead key r.toL) : Nat) : Int) by omega]
        exact q
      · rw [if_neg a]
        have a' := ahead_not (by simpa using a) e
        refine ahead_ok (m := m) l f _ _ s1 (S1.less (by omega)) h.2.1 ok.2.1 (by omega) (by omega) (by omega) h1 fun s3 S3 => ?_
        have q := hQ s3 S3
        rw [nAhead_none (L := r.toL) fun p hp => ahead_asymm (ahead_trans a' (h4 p hp)), if_neg a] at q
        simpa using q
def hiN (L : List (Ky × Th)) : Option Ky → Int
  | none => (L.length : Int)
  | some b => (nAhead b L : Int)
def loN (L : List (Ky × Th)) : Option Ky → Int
  | none => 0
  | some a => (nAhead a L : Int)
theorem cut_len {lo hi : Option Ky} {L : List (Ky × Th)} (h : Srt L) (he : isEmpty lo hi = false) : ((cut_ lo hi L).length : Int) = hiN L hi - loN L lo := by
  induction L with
  | nil =>
    cases lo <;> cases hi <;> simp [cut_, nAhead, hiN, loN]
  | cons p r ih =>
    have hr : Srt r := (List.pairwise_cons.mp h).2
    have ih := ih hr
    have c1 : (cut_ lo hi (p :: r)).length = (if isIn lo hi p.1 = true then 1 else 0) + (cut_ lo hi r).length := by
      unfold cut_
      rw [List.filter_cons]
      split
      · rw [List.length_cons]; omega
      · omega
    have c2 : ∀ b, nAhead b (p :: r) = (if ahead p.1 b = true then 1 else 0) + nAhead b r := fun b => by
      unfold nAhead
      rw [List.filter_cons]
      split
      · rw [List.length_cons]; omega
      · omega
    rw [c1]
    cases lo with
    | none =>
      cases hi with
      | none =>
        simp only [hiN, loN] at ih ⊢
        have e : isIn none none p.1 = true := rfl
        rw [if_pos e, List.length_cons]
        omega
      | some b =>
        simp only [hiN, loN] at ih ⊢
        rw [c2 b]
        have e : isIn none (some b) p.1 = ahead p.1 b := by simp [isIn, notBelow, goesR]
        rw [e]
        split <;> omega
    | some a =>
      cases hi with
      | none =>
        simp only [hiN, loN] at ih ⊢
        rw [c2 a, List.length_cons]
        have e : isIn (some a) none p.1 = !ahead p.1 a := by simp [isIn, notBelow, goesR]
        rw [e]
        by_cases q : ahead p.1 a = true
        · rw [q]; simp; omega
        · have q' : ahead p.1 a = false := by simpa using q
          rw [q']; simp; omega
      | some b =>
        simp only [hiN, loN] at ih ⊢
        rw [c2 a, c2 b]
        have hab : ahead a b = true := by simpa [isEmpty] using he
        have e : isIn (some a) (some b) p.1 = (!ahead p.1 a && ahead p.1 b) := by simp [isIn, notBelow, goesR]
        rw [e]
        by_cases q : ahead p.1 a = true
        · have q2 := ahead_trans q hab
          rw [q, q2]; simp; omega
        · have q' : ahead p.1 a = false := by simpa using q
          rw [q']
          by_cases q3 : ahead p.1 b = true
          · rw [q3]; simp; omega
          · have q3' : ahead p.1 b = false := by simpa using q3
            rw [q3']; simp; omega

/-! ### the pair of a number -/
theorem nth_ok {g : Int → Option Th} {N : Prop} {C : Th → Th → Prop} {Q : Option (Ky × Th) → VS → Prop} {m : Nat} : ∀ (t : Tr) (f : Nat) (number : Nat) (c : Int) (s : VS), Stt g s (m + 2 * t.sz) → Holds g t → t.ok → t.sz ≤ 300 → (t.sz : Int) < c → t.sz < f →
    (∀ s', Stt g s' m → Q (t.toL[number]?) s') → wpr (nthP f t.root (number : Int) c) s Q N C
  | _, 0, _, _, _, _, _, _, _, _, hf, _ => by omega
  | .lf, f + 1, number, c, s, S, _, _, _, _, _, hQ => hQ s S
  | .nd l k w r, f + 1, number, c, s, S, h, ok, hz, hc, hf, hQ => by
    have hz' : l.sz + r.sz + 1 ≤ 300 := hz
    have hf' : l.sz + r.sz + 1 < f + 1 := hf
    have el := toL_len l
    unfold nthP
    rw [if_neg (root_pos l k w r)]
    refine turn_ok (m := m + 2 * (l.sz + r.sz) + 1) (S.less (by show _ ≤ m + 2 * (l.sz + r.sz + 1); omega)) h ok hz hc fun s1 S1 _ _ => ?_
    show wpr ((sizeBP l.root ((l.sz + r.sz + 1 : Nat) : Int)).bind _) s1 Q N C
    refine sizeB_turn (t := l) (m := m + 2 * (l.sz + r.sz)) S1 h.2.1 ok.2.1 (by omega) (by omega) fun s2 S2 _ _ => ?_
    have e0 : (Tr.nd l k w r).toL = l.toL ++ (k, w) :: r.toL := rfl
    rw [e0] at hQ
    by_cases e : (number : Int) = (l.sz : Int)
    · rw [if_pos e]
      have q := hQ s2 (S2.less (by omega))
      rw [List.getElem?_append_right (by omega), el, show number - l.sz = 0 by omega] at q
      exact q
    · rw [if_neg e]
      by_cases a : (number : Int) > (l.sz : Int)
      · rw [if_pos a]
        show wpr (nthP f r.root ((number : Int) - ((l.sz : Int) + 1)) ((l.sz + r.sz + 1 : Nat) : Int)) s2 Q N C
        rw [show (number : Int) - ((l.sz : Int) + 1) = ((number - l.sz - 1 : Nat) : Int) by omega]
        refine nth_ok (m := m) r f _ _ s2 (S2.less (by omega)) h.2.2 ok.2.2 (by omega) (by omega) (by omega) fun s3 S3 => ?_
        have q := hQ s3 S3
        rw [List.getElem?_append_right (by omega), el, show number - l.sz = (number - l.sz - 1) + 1 by omega, List.getElem?_cons_succ] at q
        exact q
      · rw [if_neg a]
        show wpr (nthP f l.root (number : Int) ((l.sz + r.sz + 1 : Nat) : Int)) s2 Q N C
        refine nth_ok (m := m) l f _ _ s2 (S2.less (by omega)) h.2.1 ok.2.1 (by omega) (by omega) (by omega) fun s3 S3 => ?_
        have q := hQ s3 S3
        rw [List.getElem?_append_left (by omega)] at q
        exact q
end PV
set_option Elab.async false
set_option linter.all false
set_option maxRecDepth 100000
/-! Trees: parted, joined, put into, cut. -/
namespace PV
open PySem

/-! ### parting -/
def partT (key : Ky) : Tr → Tr × Tr
  | .lf => (.lf, .lf)
  | .nd l k w r => if ahead k key = true then (.nd l k w (partT key r).1, (partT key r).2) else ((partT key l).1, .nd (partT key l).2 k w r)
theorem partT_nd (key : Ky) (l : Tr) (k : Ky) (w : Th) (r : Tr) : partT key (.nd l k w r) = if ahead k key = true then (.nd l k w (partT key r).1, (partT key r).2) else ((partT key l).1, .nd (partT key l).2 k w r) := rfl
def pathT (key : Ky) : Tr → List Nd
  | .lf => []
  | .nd l k w r => (if ahead k key = true then pathT key r else pathT key l) ++ [top l k w r]
theorem partT_sz (key : Ky) : ∀ t : Tr, (partT key t).1.sz + (partT key t).2.sz = t.sz
  | .lf => rfl
  | .nd l k w r => by
    have hl := partT_sz key l
    have hr := partT_sz key r
    unfold partT
    split
    · show (l.sz + (partT key r).1.sz + 1) + (partT key r).2.sz = l.sz + r.sz + 1
      omega
    · show (partT key l).1.sz + ((partT key l).2.sz + r.sz + 1) = l.sz + r.sz + 1
      omega
theorem partT_ok {key : Ky} : ∀ {t : Tr}, t.ok → (partT key t).1.ok ∧ (partT key t).2.ok
  | .lf, _ => ⟨trivial, trivial⟩
  | .nd l k w r, h => by
    unfold partT
    split
    · exact ⟨⟨h.1, h.2.1, (partT_ok h.2.2).1⟩, (partT_ok h.2.2).2⟩
    · exact ⟨(partT_ok h.2.1).1, ⟨h.1, (partT_ok h.2.1).2, h.2.2⟩⟩
theorem partDown_ok {g : Int → Option Th} {N : Prop} {C : Th → Th → Prop} {key : Ky} {Q : List Nd → VS → Prop} {m : Nat} : ∀ (t : Tr) (f : Nat) (c : Int) (way : List Nd) (s : VS), Stt g s (m + t.sz) → Holds g t → t.ok → t.sz ≤ 300 → (t.sz : Int) < c → t.sz < f →
    (∀ s', Stt g s' m → Q (pathT key t ++ way) s') → wpr (partDown f t.root key c way) s Q N C
  | _, 0, _, _, _, _, _, _, _, _, hf, _ => by omega
  | .lf, f + 1, c, way, s, S, _, _, _, _, _, hQ => hQ s S
  | .nd l k w r, f + 1, c, way, s, S, h, ok, hz, hc, hf, hQ => by
    have hz' : l.sz + r.sz + 1 ≤ 300 := hz
    have hf' : l.sz + r.sz + 1 < f + 1 := hf
    unfold partDown
    rw [if_neg (root_pos l k w r)]
    refine turn_ok (m := m + (l.sz + r.sz)) (S.less (by show _ ≤ m + (l.sz + r.sz + 1); omega)) h ok hz hc fun s1 S1 _ _ => ?_
    show wpr (partDown f (if ahead k key = true then r.root else l.root) key ((l.sz + r.sz + 1 : Nat) : Int) (top l k w r :: way)) s1 Q N C
    unfold pathT at hQ
    by_cases a : ahead k key = true
    · rw [if_pos a] at hQ ⊢
      refine partDown_ok (m := m) r f _ _ s1 (S1.less (by omega)) h.2.2 ok.2.2 (by omega) (by omega) (by omega) fun s2 S2 => ?_
      have q := hQ s2 S2
      rw [List.append_assoc] at q
      exact q
    · rw [if_neg a] at hQ ⊢
      refine partDown_ok (m := m) l f _ _ s1 (S1.less (by omega)) h.2.1 ok.2.1 (by omega) (by omega) (by omega) fun s2 S2 => ?_
      have q := hQ s2 S2
      rw [List.append_assoc] at q
      exact q
/-- the state behind the way through a tree -/
def pst (key : Ky) (t : Tr) : PSt := ⟨(partT key t).1.root, (partT key t).2.root, ((partT key t).1.sz : Int), ((partT key t).2.sz : Int), (t.sz : Int)⟩
theorem partBack_ok {g : Int → Option Th} {N : Prop} {key : Ky} {Q : Int × Int → VS → Prop} : ∀ (t : Tr) (m : Nat) (rest : List Nd) (s : VS), Stt g s (m + t.sz) → Holds g t → t.ok → t.sz ≤ 300 →
    (∀ s', Stt g s' m → Holds s'.view (partT key t).1 → Holds s'.view (partT key t).2 → wpr (partBack key rest (pst key t)) s' Q N fun _ _ => True) → wpr (partBack key (pathT key t ++ rest) ⟨0, 0, 0, 0, 0⟩) s Q N fun _ _ => True
  | .lf, m, rest, s, S, _, _, _, hQ => hQ s S trivial trivial
  | .nd l k w r, m, rest, s, S, h, ok, hz, hQ => by
    have hz' : l.sz + r.sz + 1 ≤ 300 := hz
    have hl := partT_sz key l
    have hr := partT_sz key r
    unfold pathT
    by_cases a : ahead k key = true
    · rw [if_pos a, List.append_assoc]
      refine partBack_ok r (m + 1) (top l k w r :: rest) s (S.less (by show _ ≤ m + (l.sz + r.sz + 1); omega)) h.2.2 ok.2.2 (by omega) fun s1 S1 H1 H2 => ?_
      have e1 : (partT key (.nd l k w r)).1 = .nd l k w (partT key r).1 := by rw [partT_nd, if_pos a]
      have e2 : (partT key (.nd l k w r)).2 = (partT key r).2 := by rw [partT_nd, if_pos a]
      unfold pst at hQ
      rw [e1, e2] at hQ
      unfold partBack
      rw [if_pos (show ahead (top l k w r).k key = true from a)]
      have ec : (pst key r).lesser + ((top l k w r).c - (pst key r).beneath) = ((l.sz + (partT key r).1.sz + 1 : Nat) : Int) := by
        show ((partT key r).1.sz : Int) + (((l.sz + r.sz + 1 : Nat) : Int) - (r.sz : Int)) = _
        omega
      rw [ec]
      have okn : (Tr.nd l k w (partT key r).1).ok := ⟨ok.1, ok.2.1, (partT_ok ok.2.2).1⟩
      refine ly_ok (t := (top l k w (partT key r).1).th) S1 (top_within okn (by show l.sz + (partT key r).1.sz + 1 ≤ 1000; omega)) fun s2 S2 mono new => ?_
      refine hQ s2 S2 ⟨new, (h.2.1).mono S2.view, H1.mono mono⟩ (H2.mono mono)
    · rw [if_neg a, List.append_assoc]
      refine partBack_ok l (m + 1) (top l k w r :: rest) s (S.less (by show _ ≤ m + (l.sz + r.sz + 1); omega)) h.2.1 ok.2.1 (by omega) fun s1 S1 H1 H2 => ?_
      have e1 : (partT key (.nd l k w r)).1 = (partT key l).1 := by rw [partT_nd, if_neg a]
      have e2 : (partT key (.nd l k w r)).2 = .nd (partT key l).2 k w r := by rw [partT_nd, if_neg a]
      unfold pst at hQ
      rw [e1, e2] at hQ
      unfold partBack
      rw [if_neg (show ¬ ahead (top l k w r).k key = true from a)]
      have ec : (pst key l).greater + ((top l k w r).c - (pst key l).beneath) = (((partT key l).2.sz + r.sz + 1 : Nat) : Int) := by
        show ((partT key l).2.sz : Int) + (((l.sz + r.sz + 1 : Nat) : Int) - (l.sz : Int)) = _
        omega
      rw [ec]
      have okn : (Tr.nd (partT key l).2 k w r).ok := ⟨ok.1, (partT_ok ok.2.1).2, ok.2.2⟩
      refine ly_ok (t := (top (partT key l).2 k w r).th) S1 (top_within okn (by show (partT key l).2.sz + r.sz + 1 ≤ 1000; omega)) fun s2 S2 mono new => ?_
      refine hQ s2 S2 (H1.mono mono) ⟨new, H2.mono mono, (h.2.2).mono S2.view⟩
theorem partQ_ok {g : Int → Option Th} {N : Prop} {key : Ky} {Q : Int × Int → VS → Prop} {m : Nat} (t : Tr) (s : VS) (S : Stt g s (m + 2 * t.sz)) (h : Holds g t) (ok : t.ok) (hz : t.sz < 40)
    (hQ : ∀ s', Stt g s' m → Holds s'.view (partT key t).1 → Holds s'.view (partT key t).2 → Q ((partT key t).1.root, (partT key t).2.root) s') : wpr (partQ t.root key) s Q N fun _ _ => True := by
  unfold partQ
  rw [show wpr (Prog.bind _ _) s Q N _ = _ from wp_bind _ _ _ _ _ _]
  refine partDown_ok (m := m + t.sz) t fuelP 301 [] s (S.less (by omega)) h ok (by omega) (by omega) hz fun s1 S1 => ?_
  exact partBack_ok t m [] s1 S1 h ok (by omega) fun s2 S2 H1 H2 => hQ s2 S2 H1 H2

/-! ### joining -/
def joinT : Tr → Tr → Tr
  | .lf, b => b
  | .nd l k w r, .lf => .nd l k w r
  | .nd l1 k1 w1 r1, .nd l2 k2 w2 r2 => if above k1 k2 = true then .nd l1 k1 w1 (joinT r1 (.nd l2 k2 w2 r2)) else .nd (joinT (.nd l1 k1 w1 r1) l2) k2 w2 r2
termination_by a b => a.sz + b.sz
decreasing_by
  · simp only [Tr.sz]; omega
  · simp only [Tr.sz]; omega
theorem joinT_lf (b : Tr) : joinT .lf b = b := by unfold joinT; rfl
theorem joinT_nl (l : Tr) (k : Ky) (w : Th) (r : Tr) : joinT (.nd l k w r) .lf = .nd l k w r := by unfold joinT; rfl
theorem joinT_nn (l1 : Tr) (k1 : Ky) (w1 : Th) (r1 l2 : Tr) (k2 : Ky) (w2 : Th) (r2 : Tr) : joinT (.nd l1 k1 w1 r1) (.nd l2 k2 w2 r2) =
    if above k1 k2 = true then .nd l1 k1 w1 (joinT r1 (.nd l2 k2 w2 r2)) else .nd (joinT (.nd l1 k1 w1 r1) l2) k2 w2 r2 := by
  conv => lhs; unfold joinT
theorem joinT_ind {P : Tr → Tr → Prop} (h1 : ∀ b, P .lf b) (h2 : ∀ l k w r, P (.nd l k w r) .lf) (h3 : ∀ l1 k1 w1 r1 l2 k2 w2 r2, (above k1 k2 = true → P r1 (.nd l2 k2 w2 r2)) → (¬ above k1 k2 = true → P (.nd l1 k1 w1 r1) l2) → P (.nd l1 k1 w1 r1) (.nd l2 k2 w2 r2)) : ∀ (n : Nat) (a b : Tr), a.sz + b.sz ≤ n → P a b
  | _, .lf, b, _ => h1 b
  | _, .nd l k w r, .lf, _ => h2 l k w r
  | 0, .nd _ _ _ _, .nd _ _ _ _, h => by simp only [Tr.sz] at h; omega
  | n + 1, .nd l1 k1 w1 r1, .nd l2 k2 w2 r2, h => h3 l1 k1 w1 r1 l2 k2 w2 r2 (fun _ => joinT_ind h1 h2 h3 n _ _ (by simp only [Tr.sz] at h ⊢; omega)) fun _ => joinT_ind h1 h2 h3 n _ _ (by simp only [Tr.sz] at h ⊢; omega)
theorem joinT_toL (a b : Tr) : (joinT a b).toL = a.toL ++ b.toL := by
  refine joinT_ind (P := fun a b => (joinT a b).toL = a.toL ++ b.toL) (fun b => by rw [joinT_lf]; rfl) (fun l k w r => by rw [joinT_nl]; simp [Tr.toL]) (fun l1 k1 w1 r1 l2 k2 w2 r2 i1 i2 => ?_) _ a b (Nat.le_refl _)
  rw [joinT_nn]
  by_cases e : above k1 k2 = true
  · rw [if_pos e]
    show l1.toL ++ (k1, w1) :: (joinT r1 (.nd l2 k2 w2 r2)).toL = (l1.toL ++ (k1, w1) :: r1.toL) ++ _
    rw [i1 e, List.append_assoc]; rfl
  · rw [if_neg e]
    show (joinT (.nd l1 k1 w1 r1) l2).toL ++ (k2, w2) :: r2.toL = _ ++ (l2.toL ++ (k2, w2) :: r2.toL)
    rw [i2 e, List.append_assoc]
theorem joinT_sz (a b : Tr) : (joinT a b).sz = a.sz + b.sz := by
  rw [← toL_len, joinT_toL, List.length_append, toL_len, toL_len]
theorem joinT_ok (a b : Tr) : a.ok → b.ok → (joinT a b).ok := by
  refine joinT_ind (P := fun a b => a.ok → b.ok → (joinT a b).ok) (fun b _ h => by rw [joinT_lf]; exact h) (fun l k w r h _ => by rw [joinT_nl]; exact h) (fun l1 k1 w1 r1 l2 k2 w2 r2 i1 i2 h1 h2 => ?_) _ a b (Nat.le_refl _)
  rw [joinT_nn]
  by_cases e : above k1 k2 = true
  · rw [if_pos e]
    exact ⟨h1.1, h1.2.1, i1 e h1.2.2 h2⟩
  · rw [if_neg e]
    exact ⟨h2.1, i2 e h1 h2.2.1, h2.2.2⟩
/-- how it goes: the tree that is left at last, the way -/
inductive Joins : Tr → Tr → Tr → List (Nd × Bool × Int) → Prop where
  | l (b : Tr) : Joins .lf b b []
  | r (l : Tr) (k : Ky) (w : Th) (r : Tr) : Joins (.nd l k w r) .lf (.nd l k w r) []
  | a {l1 : Tr} {k1 : Ky} {w1 : Th} {r1 l2 : Tr} {k2 : Ky} {w2 : Th} {r2 t : Tr} {way : List (Nd × Bool × Int)} (e : above k1 k2 = true) (h : Joins r1 (.nd l2 k2 w2 r2) t way) :
      Joins (.nd l1 k1 w1 r1) (.nd l2 k2 w2 r2) t (way ++ [(top l1 k1 w1 r1, true, (((l1.sz + r1.sz + 1) + (l2.sz + r2.sz + 1) : Nat) : Int))])
  | b {l1 : Tr} {k1 : Ky} {w1 : Th} {r1 l2 : Tr} {k2 : Ky} {w2 : Th} {r2 t : Tr} {way : List (Nd × Bool × Int)} (e : ¬ above k1 k2 = true) (h : Joins (.nd l1 k1 w1 r1) l2 t way) :
      Joins (.nd l1 k1 w1 r1) (.nd l2 k2 w2 r2) t (way ++ [(top l2 k2 w2 r2, false, (((l1.sz + r1.sz + 1) + (l2.sz + r2.sz + 1) : Nat) : Int))])
theorem joinDown_ok {g : Int → Option Th} {N : Prop} {C : Th → Th → Prop} {Q : Int × List (Nd × Bool × Int) → VS → Prop} {m : Nat} : ∀ (n : Nat) (f : Nat) (x y : Tr) (one other : Int) (way : List (Nd × Bool × Int)) (s : VS), x.sz + y.sz ≤ n → Stt g s (m + 2 * n) → Holds g x → Holds g y → x.ok → y.ok → x.sz ≤ 300 → y.sz ≤ 300 →
    (x.sz : Int) < one → (y.sz : Int) < other → n < f → (∀ t w s', Joins x y t w → Stt g s' m → Q (t.root, w ++ way) s') → wpr (joinDown f x.root y.root one other way) s Q N C
  | _, 0, _, _, _, _, _, _, _, _, _, _, _, _, _, _, _, _, hf, _ => by omega
  | n, f + 1, .lf, y, one, other, way, s, hn, S, _, _, _, _, _, _, _, _, _, hQ => by
    unfold joinDown
    rw [if_pos (show Tr.lf.root = 0 ∨ y.root = 0 from Or.inl rfl)]
    exact hQ y [] s (.l y) (S.less (by omega))
  | n, f + 1, .nd l k w r, .lf, one, other, way, s, hn, S, _, _, _, _, _, _, _, _, _, hQ => by
    unfold joinDown
    rw [if_pos (show (Tr.nd l k w r).root = 0 ∨ Tr.lf.root = 0 from Or.inr rfl), if_neg (root_pos l k w r)]
    exact hQ (.nd l k w r) [] s (.r l k w r) (S.less (by omega))
  | 0, f + 1, .nd _ _ _ _, .nd _ _ _ _, _, _, _, _, hn, _, _, _, _, _, _, _, _, _, _, _ => by simp only [Tr.sz] at hn; omega
  | n + 1, f + 1, .nd l1 k1 w1 r1, .nd l2 k2 w2 r2, one, other, way, s, hn, S, h1, h2, ok1, ok2, hz1, hz2, hc1, hc2, hf, hQ => by
    have z1 : l1.sz + r1.sz + 1 ≤ 300 := hz1
    have z2 : l2.sz + r2.sz + 1 ≤ 300 := hz2
    have hn' : (l1.sz + r1.sz + 1) + (l2.sz + r2.sz + 1) ≤ n + 1 := hn
    unfold joinDown
    rw [if_neg (by rintro (e | e); exact root_pos _ _ _ _ e; exact root_pos _ _ _ _ e)]
    refine turn_ok (m := m + 2 * n + 1) (S.less (by omega)) h1 ok1 hz1 hc1 fun s1 S1 _ _ => ?_
    refine turn_ok (m := m + 2 * n) S1 h2 ok2 hz2 hc2 fun s2 S2 _ _ => ?_
    have ec : (top l1 k1 w1 r1).c + (top l2 k2 w2 r2).c = (((l1.sz + r1.sz + 1) + (l2.sz + r2.sz + 1) : Nat) : Int) := by
      show ((l1.sz + r1.sz + 1 : Nat) : Int) + ((l2.sz + r2.sz + 1 : Nat) : Int) = _
      omega
    rw [ec]
    by_cases e : above k1 k2 = true
    · rw [if_pos (show above (top l1 k1 w1 r1).k (top l2 k2 w2 r2).k = true from e)]
      refine joinDown_ok n f r1 (.nd l2 k2 w2 r2) _ other _ s2 (by show r1.sz + (l2.sz + r2.sz + 1) ≤ n; omega) S2 h1.2.2 h2 ok1.2.2 ok2 (by omega) hz2 (by show (r1.sz : Int) < ((l1.sz + r1.sz + 1 : Nat) : Int); omega) hc2 (by omega) fun t w s3 hj S3 => ?_
      have q := hQ t _ s3 (.a e hj) S3
      rw [List.append_assoc] at q
      exact q
    · rw [if_neg (show ¬ above (top l1 k1 w1 r1).k (top l2 k2 w2 r2).k = true from e)]
      refine joinDown_ok n f (.nd l1 k1 w1 r1) l2 one _ _ s2 (by show (l1.sz + r1.sz + 1) + l2.sz ≤ n; omega) S2 h1 h2.2.1 ok1 ok2.2.1 hz1 (by omega) hc1 (by show (l2.sz : Int) < ((l2.sz + r2.sz + 1 : Nat) : Int); omega) (by omega) fun t w s3 hj S3 => ?_
      have q := hQ t _ s3 (.b e hj) S3
      rw [List.append_assoc] at q
      exact q
theorem joins_len {x y t : Tr} {way : List (Nd × Bool × Int)} (j : Joins x y t way) : way.length ≤ x.sz + y.sz := by
  induction j with
  | l b => simp
  | r l k w r => simp
  | a e h ih => simp only [List.length_append, List.length_cons, List.length_nil, Tr.sz] at ih ⊢; omega
  | b e h ih => simp only [List.length_append, List.length_cons, List.length_nil, Tr.sz] at ih ⊢; omega
theorem joinBack_ok {g : Int → Option Th} {N : Prop} {Q : Int → VS → Prop} {x y t : Tr} {way : List (Nd × Bool × Int)} (j : Joins x y t way) : ∀ (m : Nat) (rest : List (Nd × Bool × Int)) (s : VS), Stt g s (m + way.length) → Holds g x → Holds g y → x.ok → y.ok → x.sz + y.sz ≤ 600 →
    (∀ s', Stt g s' m → Holds s'.view (joinT x y) → wpr (joinBack rest (joinT x y).root) s' Q N fun _ _ => True) → wpr (joinBack (way ++ rest) t.root) s Q N fun _ _ => True := by
  induction j with
  | l b =>
    intro m rest s S _ h2 _ _ _ hQ
    rw [joinT_lf] at hQ
    exact hQ s S (h2.mono S.view)
  | r l k w r =>
    intro m rest s S h1 _ _ _ _ hQ
    rw [joinT_nl] at hQ
    exact hQ s S (h1.mono S.view)
  | @a l1 k1 w1 r1 l2 k2 w2 r2 t way e j ih =>
    intro m rest s S h1 h2 ok1 ok2 hz hQ
    have hz' : (l1.sz + r1.sz + 1) + (l2.sz + r2.sz + 1) ≤ 600 := hz
    rw [List.append_assoc]
    refine ih (m + 1) _ s (S.less (by rw [List.length_append]; simp; omega)) h1.2.2 h2 ok1.2.2 ok2 (by show r1.sz + (l2.sz + r2.sz + 1) ≤ 600; omega) fun s1 S1 H1 => ?_
    have hs := joinT_sz r1 (.nd l2 k2 w2 r2)
    have hs' : (joinT r1 (.nd l2 k2 w2 r2)).sz = r1.sz + (l2.sz + r2.sz + 1) := hs
    have okn : (Tr.nd l1 k1 w1 (joinT r1 (.nd l2 k2 w2 r2))).ok := ⟨ok1.1, ok1.2.1, joinT_ok _ _ ok1.2.2 ok2⟩
    rw [joinT_nn, if_pos e] at hQ
    have ec : (((l1.sz + r1.sz + 1) + (l2.sz + r2.sz + 1) : Nat) : Int) = ((l1.sz + (joinT r1 (.nd l2 k2 w2 r2)).sz + 1 : Nat) : Int) := by rw [hs']; omega
    rw [ec]
    show wpr (.ly (top l1 k1 w1 (joinT r1 (.nd l2 k2 w2 r2))).th fun n => joinBack rest n) s1 Q N _
    refine ly_ok S1 (top_within okn (by show l1.sz + (joinT r1 (.nd l2 k2 w2 r2)).sz + 1 ≤ 1000; omega)) fun s2 S2 mono new => ?_
    exact hQ s2 S2 ⟨new, (h1.2.1).mono S2.view, H1.mono mono⟩
  | @b l1 k1 w1 r1 l2 k2 w2 r2 t way e j ih =>
    intro m rest s S h1 h2 ok1 ok2 hz hQ
    have hz' : (l1.sz + r1.sz + 1) + (l2.sz + r2.sz + 1) ≤ 600 := hz
    rw [List.append_assoc]
    refine ih (m + 1) _ s (S.less (by rw [List.length_append]; simp; omega)) h1 h2.2.1 ok1 ok2.2.1 (by show (l1.sz + r1.sz + 1) + l2.sz ≤ 600; omega) fun s1 S1 H1 => ?_
    have hs := joinT_sz (.nd l1 k1 w1 r1) l2
    have hs' : (joinT (.nd l1 k1 w1 r1) l2).sz = (l1.sz + r1.sz + 1) + l2.sz := hs
    have okn : (Tr.nd (joinT (.nd l1 k1 w1 r1) l2) k2 w2 r2).ok := ⟨ok2.1, joinT_ok _ _ ok1 ok2.2.1, ok2.2.2⟩
    rw [joinT_nn, if_neg e] at hQ
    have ec : (((l1.sz + r1.sz + 1) + (l2.sz + r2.sz + 1) : Nat) : Int) = (((joinT (.nd l1 k1 w1 r1) l2).sz + r2.sz + 1 : Nat) : Int) := by rw [hs']; omega
    rw [ec]
    show wpr (.ly (top (joinT (.nd l1 k1 w1 r1) l2) k2 w2 r2).th fun n => joinBack rest n) s1 Q N _
    refine ly_ok S1 (top_within okn (by show (joinT (.nd l1 k1 w1 r1) l2).sz + r2.sz + 1 ≤ 1000; omega)) fun s2 S2 mono new => ?_
    exact hQ s2 S2 ⟨new, H1.mono mono, (h2.2.2).mono S2.view⟩
theorem joinedQ_ok {g : Int → Option Th} {N : Prop} {Q : Int → VS → Prop} {m : Nat} (x y : Tr) (most : Int) (s : VS) (S : Stt g s (m + 3 * (x.sz + y.sz))) (h1 : Holds g x) (h2 : Holds g y) (ok1 : x.ok) (ok2 : y.ok) (hz : x.sz + y.sz < 40) (hc1 : (x.sz : Int) < most) (hc2 : (y.sz : Int) < most)
    (hQ : ∀ s', Stt g s' m → Holds s'.view (joinT x y) → Q (joinT x y).root s') : wpr (joinedQ x.root y.root most) s Q N fun _ _ => True := by
  unfold joinedQ
  rw [show wpr (Prog.bind _ _) s Q N _ = _ from wp_bind _ _ _ _ _ _]
  refine joinDown_ok (m := m + (x.sz + y.sz)) (x.sz + y.sz) fuelP x y most most [] s (Nat.le_refl _) (S.less (by omega)) h1 h2 ok1 ok2 (by omega) (by omega) hc1 hc2 hz fun t w s1 hj S1 => ?_
  have := joins_len hj
  exact joinBack_ok hj m [] s1 (S1.less (by omega)) h1 h2 ok1 ok2 (by omega) fun s2 S2 H1 => hQ s2 S2 H1

/-! ### a way back up -/
inductive Way (F : Tr → Tr) (key : Ky) (T : Tr) : Tr → List Nd → Prop where
  | nil : Way F key T T []
  | left {l : Tr} {k : Ky} {w : Th} {r : Tr} {way : List Nd} (h : Way F key T (.nd l k w r) way) (a : ahead key k = true) (e : F (.nd l k w r) = .nd (F l) k w r) : Way F key T l (top l k w r :: way)
  | right {l : Tr} {k : Ky} {w : Th} {r : Tr} {way : List Nd} (h : Way F key T (.nd l k w r) way) (a : ¬ ahead key k = true) (e : F (.nd l k w r) = .nd l k w (F r)) : Way F key T r (top l k w r :: way)
theorem way_sub {F : Tr → Tr} {key : Ky} {T t : Tr} {way : List Nd} (W : Way F key T t way) {g : Int → Option Th} (h : Holds g T) (ok : T.ok) : Holds g t ∧ t.ok ∧ t.sz + way.length ≤ T.sz := by
  induction W with
  | nil => exact ⟨h, ok, Nat.le_refl _⟩
  | left W a e ih => exact ⟨ih.1.2.1, ih.2.1.2.1, by have := ih.2.2; simp only [Tr.sz, List.length_cons] at this ⊢; omega⟩
  | right W a e ih => exact ⟨ih.1.2.2, ih.2.1.2.2, by have := ih.2.2; simp only [Tr.sz, List.length_cons] at this ⊢; omega⟩
theorem rebuilt_ok {g : Int → Option Th} {N : Prop} {F : Tr → Tr} {key : Ky} {T t : Tr} {way : List Nd} {more : Int} {Q : Int → VS → Prop} (W : Way F key T t way) (h : Holds g T) (ok : T.ok) (hz : T.sz ≤ 300) : ∀ (m : Nat) (s : VS), Stt g s (m + way.length) → Holds s.view (F t) → (F t).ok → ((F t).sz : Int) = (t.sz : Int) + more → more ≤ 1 →
    (∀ s', Stt g s' m → Holds s'.view (F T) → (F T).ok → ((F T).sz : Int) = (T.sz : Int) + more → Q (F T).root s') → wpr (rebuiltP key more way (F t).root) s Q N fun _ _ => True := by
  induction W with
  | nil => exact fun m s S H1 ok1 hs hm hQ => hQ s S H1 ok1 hs
  | @left l k w r way W a e ih =>
    intro m s S H1 ok1 hs hm hQ
    obtain ⟨hh, hok, hsz⟩ := way_sub W h ok
    have hsz' : l.sz + r.sz + 1 + way.length ≤ T.sz := hsz
    have okn : (Tr.nd (F l) k w r).ok := ⟨hok.1, ok1, hok.2.2⟩
    unfold rebuiltP
    rw [if_pos (show ahead key (top l k w r).k = true from a)]
    have ec : (top l k w r).c + more = (((F l).sz + r.sz + 1 : Nat) : Int) := by
      show ((l.sz + r.sz + 1 : Nat) : Int) + more = _
      omega
    rw [ec]
    refine ly_ok (t := (top (F l) k w r).th) (m := m + way.length) (S.less (by rw [List.length_cons]; omega)) (top_within okn (by show (F l).sz + r.sz + 1 ≤ 1000; omega)) fun s2 S2 mono new => ?_
    have q := ih m s2 S2
    rw [e] at q
    refine q ⟨new, H1.mono mono, (hh.2.2).mono S2.view⟩ okn (by show (((F l).sz + r.sz + 1 : Nat) : Int) = ((l.sz + r.sz + 1 : Nat) : Int) + more; omega) hm hQ
  | @right l k w r way W a e ih =>
    intro m s S H1 ok1 hs hm hQ
    obtain ⟨hh, hok, hsz⟩ := way_sub W h ok
    have hsz' : l.sz + r.sz + 1 + way.length ≤ T.sz := hsz
    have okn : (Tr.nd l k w (F r)).ok := ⟨hok.1, hok.2.1, ok1⟩
    unfold rebuiltP
    rw [if_neg (show ¬ ahead key (top l k w r).k = true from a)]
    have ec : (top l k w r).c + more = ((l.sz + (F r).sz + 1 : Nat) : Int) := by
      show ((l.sz + r.sz + 1 : Nat) : Int) + more = _
      omega
    rw [ec]
    refine ly_ok (t := (top l k w (F r)).th) (m := m + way.length) (S.less (by rw [List.length_cons]; omega)) (top_within okn (by show l.sz + (F r).sz + 1 ≤ 1000; omega)) fun s2 S2 mono new => ?_
    have q := ih m s2 S2
    rw [e] at q
    refine q ⟨new, (hh.2.1).mono S2.view, H1.mono mono⟩ okn (by show ((l.sz + (F r).sz + 1 : Nat) : Int) = ((l.sz + r.sz + 1 : Nat) : Int) + more; omega) hm hQ

/-! ### putting -/
def putT (key : Ky) (worth : Th) : Tr → Tr
  | .lf => .nd .lf key worth .lf
  | .nd l k w r => if k = key then .nd l key worth r else if above key k = true then .nd (partT key (.nd l k w r)).1 key worth (partT key (.nd l k w r)).2
      else if ahead key k = true then .nd (putT key worth l) k w r else .nd l k w (putT key worth r)
theorem putT_nd (key : Ky) (worth : Th) (l : Tr) (k : Ky) (w : Th) (r : Tr) : putT key worth (.nd l k w r) = if k = key then .nd l key worth r else if above key k = true then .nd (partT key (.nd l k w r)).1 key worth (partT key (.nd l k w r)).2
      else if ahead key k = true then .nd (putT key worth l) k w r else .nd l k w (putT key worth r) := rfl
theorem putP_ok {g : Int → Option Th} {N : Prop} {key : Ky} {worth : Th} {Q : Int → VS → Prop} {m : Nat} {T : Tr} (hk : key.okK = true ∧ worth ≠ .non ∧ worth.fitW = true) (hT : Holds g T) (okT : T.ok) (hzT : T.sz < 39)
    (hQ : ∀ s', Stt g s' m → Holds s'.view (putT key worth T) → (putT key worth T).ok → (putT key worth T).sz ≤ T.sz + 1 → Q (putT key worth T).root s') :
    ∀ (t : Tr) (f : Nat) (c : Int) (way : List Nd) (s : VS), Way (putT key worth) key T t way → Stt g s (m + way.length + 1 + 3 * t.sz) → (t.sz : Int) < c → t.sz < f → wpr (putP f t.root key worth c way) s Q N fun _ _ => True
  | _, 0, _, _, _, _, _, _, hf => by omega
  | .lf, f + 1, c, way, s, W, S, hc, hf => by
    have S : Stt g s (m + way.length + 1) := S
    have okn : (Tr.nd .lf key worth .lf).ok := ⟨hk, trivial, trivial⟩
    refine ly_ok (t := (top .lf key worth .lf).th) (m := m + way.length) S (top_within okn (by show 0 + 0 + 1 ≤ 1000; decide)) fun s2 S2 mono new => ?_
    exact rebuilt_ok W hT okT (by omega) m s2 S2 (show Holds s2.view (.nd .lf key worth .lf) from ⟨new, trivial, trivial⟩) okn rfl (Int.le_refl 1) fun s3 S3 H3 ok3 hs => hQ s3 S3 H3 ok3 (by omega)
  | .nd l k w r, f + 1, c, way, s, W, S, hc, hf => by
    obtain ⟨h, ok, hsz⟩ := way_sub W hT okT
    have hsz' : l.sz + r.sz + 1 + way.length ≤ T.sz := hsz
    have hf' : l.sz + r.sz + 1 < f + 1 := hf
    have S : Stt g s (m + way.length + 1 + 3 * (l.sz + r.sz + 1)) := S
    unfold putP
    rw [if_neg (root_pos l k w r)]
    refine turn_ok (m := m + way.length + 1 + 3 * (l.sz + r.sz) + 2) (S.less (by omega)) h ok (by show l.sz + r.sz + 1 ≤ 300; omega) hc fun s1 S1 _ _ => ?_
    show wpr (if k = key then _ else if above key k = true then _ else _) s1 Q N _
    by_cases e : k = key
    · rw [if_pos e]
      have eF : putT key worth (.nd l k w r) = .nd l key worth r := by rw [putT_nd, if_pos e]
      have okn : (Tr.nd l key worth r).ok := ⟨hk, ok.2.1, ok.2.2⟩
      refine ly_ok (t := (top l key worth r).th) (m := m + way.length) (S1.less (by omega)) (top_within okn (by show l.sz + r.sz + 1 ≤ 1000; omega)) fun s2 S2 mono new => ?_
      have q := rebuilt_ok (N := N) (more := 0) W hT okT (by omega) m s2 S2 (Q := Q)
      rw [eF] at q
      exact q ⟨new, (h.2.1).mono S2.view, (h.2.2).mono S2.view⟩ okn (by show ((l.sz + r.sz + 1 : Nat) : Int) = ((l.sz + r.sz + 1 : Nat) : Int) + 0; omega) (by decide) fun s3 S3 H3 ok3 hs => hQ s3 S3 H3 ok3 (by omega)
    · rw [if_neg e]
      by_cases a : above key k = true
      · rw [if_pos a]
        have eF : putT key worth (.nd l k w r) = .nd (partT key (.nd l k w r)).1 key worth (partT key (.nd l k w r)).2 := by rw [putT_nd, if_neg e, if_pos a]
        have hp := partT_sz key (.nd l k w r)
        have hp' : (partT key (.nd l k w r)).1.sz + (partT key (.nd l k w r)).2.sz = l.sz + r.sz + 1 := hp
        have okp := partT_ok (key := key) ok
        rw [show wpr (Prog.bind _ _) s1 Q N _ = _ from wp_bind _ _ _ _ _ _]
        refine partQ_ok (m := m + way.length + 1) (.nd l k w r) s1 (S1.less (by show _ + 2 * (l.sz + r.sz + 1) ≤ _; omega)) h ok (by show l.sz + r.sz + 1 < 40; omega) fun s2 S2 H1 H2 => ?_
        have ec : (top l k w r).c + 1 = (((partT key (.nd l k w r)).1.sz + (partT key (.nd l k w r)).2.sz + 1 : Nat) : Int) := by
          show ((l.sz + r.sz + 1 : Nat) : Int) + 1 = _
          omega
        rw [ec]
        have okn : (Tr.nd (partT key (.nd l k w r)).1 key worth (partT key (.nd l k w r)).2).ok := ⟨hk, okp.1, okp.2⟩
        refine ly_ok (t := (top (partT key (.nd l k w r)).1 key worth (partT key (.nd l k w r)).2).th) (m := m + way.length) S2 (top_within okn (by show (partT key (.nd l k w r)).1.sz + (partT key (.nd l k w r)).2.sz + 1 ≤ 1000; omega)) fun s3 S3 mono new => ?_
        have q := rebuilt_ok (N := N) (more := 1) W hT okT (by omega) m s3 S3 (Q := Q)
        rw [eF] at q
        exact q ⟨new, H1.mono mono, H2.mono mono⟩ okn (by show (((partT key (.nd l k w r)).1.sz + (partT key (.nd l k w r)).2.sz + 1 : Nat) : Int) = ((l.sz + r.sz + 1 : Nat) : Int) + 1; omega) (by decide) fun s4 S4 H4 ok4 hs => hQ s4 S4 H4 ok4 (by omega)
      · rw [if_neg a]
        show wpr (putP f (if ahead key k = true then l.root else r.root) key worth ((l.sz + r.sz + 1 : Nat) : Int) (top l k w r :: way)) s1 Q N _
        by_cases b : ahead key k = true
        · rw [if_pos b]
          have eF : putT key worth (.nd l k w r) = .nd (putT key worth l) k w r := by rw [putT_nd, if_neg e, if_neg a, if_pos b]
          exact putP_ok hk hT okT hzT hQ l f _ _ s1 (.left W b eF) (S1.less (by rw [List.length_cons]; omega)) (by omega) (by omega)
        · rw [if_neg b]
          have eF : putT key worth (.nd l k w r) = .nd l k w (putT key worth r) := by rw [putT_nd, if_neg e, if_neg a, if_neg b]
          exact putP_ok hk hT okT hzT hQ r f _ _ s1 (.right W b eF) (S1.less (by rw [List.length_cons]; omega)) (by omega) (by omega)

/-! ### cutting -/
def cutT (key : Ky) : Tr → Tr
  | .lf => .lf
  | .nd l k w r => if k = key then joinT l r else if ahead key k = true then .nd (cutT key l) k w r else .nd l k w (cutT key r)
theorem cutT_nd (key : Ky) (l : Tr) (k : Ky) (w : Th) (r : Tr) : cutT key (.nd l k w r) = if k = key then joinT l r else if ahead key k = true then .nd (cutT key l) k w r else .nd l k w (cutT key r) := rfl
theorem way_miss {key : Ky} {T t : Tr} {way : List Nd} (W : Way (cutT key) key T t way) (h : cutT key t = t) : cutT key T = T := by
  induction W with
  | nil => exact h
  | left W a e ih => exact ih (by rw [e, h])
  | right W a e ih => exact ih (by rw [e, h])
theorem cutP_ok {g : Int → Option Th} {N : Prop} {key : Ky} {Q : Int → VS → Prop} {m : Nat} {T : Tr} (hT : Holds g T) (okT : T.ok) (hzT : T.sz < 39)
    (hQ : ∀ s', Stt g s' m → Holds s'.view (cutT key T) → (cutT key T).ok → (cutT key T).sz ≤ T.sz → Q (cutT key T).root s') :
    ∀ (t : Tr) (f : Nat) (c : Int) (way : List Nd) (s : VS), Way (cutT key) key T t way → Stt g s (m + way.length + 4 * t.sz) → (t.sz : Int) < c → t.sz < f → wpr (cutP T.root f t.root key c way) s Q N fun _ _ => True
  | _, 0, _, _, _, _, _, _, hf => by omega
  | .lf, f + 1, c, way, s, W, S, hc, hf => by
    have e := way_miss W rfl
    have q := hQ s (S.less (by omega))
    rw [e] at q
    exact q (hT.mono S.view) okT (Nat.le_refl _)
  | .nd l k w r, f + 1, c, way, s, W, S, hc, hf => by
    obtain ⟨h, ok, hsz⟩ := way_sub W hT okT
    have hsz' : l.sz + r.sz + 1 + way.length ≤ T.sz := hsz
    have hf' : l.sz + r.sz + 1 < f + 1 := hf
    have S : Stt g s (m + way.length + 4 * (l.sz + r.sz + 1)) := S
    unfold cutP
    rw [if_neg (root_pos l k w r)]
    refine turn_ok (m := m + way.length + 4 * (l.sz + r.sz) + 3) (S.less (by omega)) h ok (by show l.sz + r.sz + 1 ≤ 300; omega) hc fun s1 S1 _ _ => ?_
    show wpr (if k = key then (joinedQ l.root r.root ((l.sz + r.sz + 1 : Nat) : Int)).bind _ else _) s1 Q N _
    by_cases e : k = key
    · rw [if_pos e]
      have eF : cutT key (.nd l k w r) = joinT l r := by rw [cutT_nd, if_pos e]
      have hj := joinT_sz l r
      rw [show wpr (Prog.bind _ _) s1 Q N _ = _ from wp_bind _ _ _ _ _ _]
      refine joinedQ_ok (m := m + way.length) l r _ s1 (S1.less (by omega)) h.2.1 h.2.2 ok.2.1 ok.2.2 (by omega) (by omega) (by omega) fun s2 S2 H2 => ?_
      have q := rebuilt_ok (N := N) (more := -1) W hT okT (by omega) m s2 S2 (Q := Q)
      rw [eF] at q
      exact q H2 (joinT_ok _ _ ok.2.1 ok.2.2) (by show ((joinT l r).sz : Int) = ((l.sz + r.sz + 1 : Nat) : Int) + -1; omega) (by decide) fun s3 S3 H3 ok3 hs => hQ s3 S3 H3 ok3 (by omega)
    · rw [if_neg e]
      show wpr (cutP T.root f (if ahead key k = true then l.root else r.root) key ((l.sz + r.sz + 1 : Nat) : Int) (top l k w r :: way)) s1 Q N _
      by_cases b : ahead key k = true
      · rw [if_pos b]
        have eF : cutT key (.nd l k w r) = .nd (cutT key l) k w r := by rw [cutT_nd, if_neg e, if_pos b]
        exact cutP_ok hT okT hzT hQ l f _ _ s1 (.left W b eF) (S1.less (by rw [List.length_cons]; omega)) (by omega) (by omega)
      · rw [if_neg b]
        have eF : cutT key (.nd l k w r) = .nd l k w (cutT key r) := by rw [cutT_nd, if_neg e, if_neg b]
        exact cutP_ok hT okT hzT hQ r f _ _ s1 (.right W b eF) (S1.less (by rw [List.length_cons]; omega)) (by omega) (by omega)
end PV
set_option Elab.async false
set_option linter.all false
set_option maxRecDepth 100000
/-! Trees and tables: the pairs behind every change; what asks answer. -/
namespace PV
open PySem

def Tr.hp : Tr → Prop
  | .lf => True
  | .nd l k w r => (∀ p ∈ l.toL, above k p.1 = true) ∧ (∀ p ∈ r.toL, above k p.1 = true) ∧ l.hp ∧ r.hp
theorem toL_nd (l : Tr) (k : Ky) (w : Th) (r : Tr) : (Tr.nd l k w r).toL = l.toL ++ (k, w) :: r.toL := rfl
def lowr (key : Ky) (L : List (Ky × Th)) : List (Ky × Th) := L.filter fun p => ahead p.1 key
def uppr (key : Ky) (L : List (Ky × Th)) : List (Ky × Th) := L.filter fun p => ahead key p.1
def notl (key : Ky) (L : List (Ky × Th)) : List (Ky × Th) := L.filter fun p => !ahead p.1 key
theorem partT_toL {key : Ky} : ∀ {t : Tr}, Srt t.toL → (partT key t).1.toL = lowr key t.toL ∧ (partT key t).2.toL = notl key t.toL
  | .lf, _ => ⟨rfl, rfl⟩
  | .nd l k w r, h => by
    obtain ⟨h1, h2, h3, h4, h5⟩ := srt_nd h
    rw [partT_nd]
    have il := partT_toL (key := key) h1
    have ir := partT_toL (key := key) h2
    unfold lowr notl at *
    rw [toL_nd, List.filter_append, List.filter_append, List.filter_cons, List.filter_cons]
    by_cases a : ahead k key = true
    · have e1 : l.toL.filter (fun p => ahead p.1 key) = l.toL := filter_all fun p hp => ahead_trans (h3 p hp) a
      have e2 : l.toL.filter (fun p => !ahead p.1 key) = [] := filter_none fun p hp => by rw [ahead_trans (h3 p hp) a]; rfl
      have e3 : (!ahead k key) = false := by rw [a]; rfl
      simp only [a, if_true, e1, e2, e3, Bool.false_eq_true, if_false]
      exact ⟨by rw [toL_nd, ir.1], by rw [ir.2]; rfl⟩
    · have a' : ahead k key = false := by simpa using a
      have hk : ∀ p ∈ r.toL, ahead p.1 key = false := fun p hp => by
        cases q : ahead p.1 key with
        | false => rfl
        | true => rw [ahead_trans (h4 p hp) q] at a'; cases a'
      have e1 : r.toL.filter (fun p => ahead p.1 key) = [] := filter_none hk
      have e2 : r.toL.filter (fun p => !ahead p.1 key) = r.toL := filter_all fun p hp => by rw [hk p hp]; rfl
      have e3 : (!ahead k key) = true := by rw [a']; rfl
      simp only [a', Bool.false_eq_true, if_false, e1, e2, e3, if_true]
      exact ⟨by rw [il.1, List.append_nil], by rw [toL_nd, il.2]; rfl⟩
theorem partT_sub {key : Ky} : ∀ (t : Tr), (∀ p ∈ (partT key t).1.toL, p ∈ t.toL) ∧ ∀ p ∈ (partT key t).2.toL, p ∈ t.toL
  | .lf => ⟨fun _ h => h, fun _ h => h⟩
  | .nd l k w r => by
    have il := partT_sub (key := key) l
    have ir := partT_sub (key := key) r
    rw [partT_nd]
    split
    · refine ⟨fun p hp => ?_, fun p hp => ?_⟩
      · have hp' : p ∈ l.toL ++ (k, w) :: (partT key r).1.toL := hp
        show p ∈ l.toL ++ (k, w) :: r.toL
        simp only [List.mem_append, List.mem_cons] at hp' ⊢
        rcases hp' with h | h | h
        · exact .inl h
        · exact .inr (.inl h)
        · exact .inr (.inr (ir.1 p h))
      · show p ∈ l.toL ++ (k, w) :: r.toL
        simp only [List.mem_append, List.mem_cons]
        exact .inr (.inr (ir.2 p hp))
    · refine ⟨fun p hp => ?_, fun p hp => ?_⟩
      · show p ∈ l.toL ++ (k, w) :: r.toL
        simp only [List.mem_append, List.mem_cons]
        exact .inl (il.1 p hp)
      · have hp' : p ∈ (partT key l).2.toL ++ (k, w) :: r.toL := hp
        show p ∈ l.toL ++ (k, w) :: r.toL
        simp only [List.mem_append, List.mem_cons] at hp' ⊢
        rcases hp' with h | h | h
        · exact .inl (il.2 p h)
        · exact .inr (.inl h)
        · exact .inr (.inr h)
theorem partT_hp {key : Ky} : ∀ {t : Tr}, t.hp → (partT key t).1.hp ∧ (partT key t).2.hp
  | .lf, _ => ⟨trivial, trivial⟩
  | .nd l k w r, h => by
    obtain ⟨h1, h2, h3, h4⟩ := h
    have il := partT_hp (key := key) h3
    have ir := partT_hp (key := key) h4
    have sl := partT_sub (key := key) l
    have sr := partT_sub (key := key) r
    rw [partT_nd]
    split
    · exact ⟨⟨h1, fun p hp => h2 p (sr.1 p hp), h3, ir.1⟩, ir.2⟩
    · exact ⟨il.1, ⟨fun p hp => h1 p (sl.2 p hp), h2, il.2, h4⟩⟩
theorem joinT_hp (a b : Tr) : a.hp → b.hp → (∀ p ∈ a.toL, ∀ q ∈ b.toL, p.1 ≠ q.1) → (joinT a b).hp := by
  refine joinT_ind (P := fun a b => a.hp → b.hp → (∀ p ∈ a.toL, ∀ q ∈ b.toL, p.1 ≠ q.1) → (joinT a b).hp) (fun b _ h _ => by rw [joinT_lf]; exact h) (fun l k w r h _ _ => by rw [joinT_nl]; exact h) (fun l1 k1 w1 r1 l2 k2 w2 r2 i1 i2 h1 h2 hd => ?_) _ a b (Nat.le_refl _)
  have m1 : (k1, w1) ∈ (Tr.nd l1 k1 w1 r1).toL := by rw [toL_nd]; simp
  have m2 : (k2, w2) ∈ (Tr.nd l2 k2 w2 r2).toL := by rw [toL_nd]; simp
  rw [joinT_nn]
  by_cases e : above k1 k2 = true
  · rw [if_pos e]
    refine ⟨h1.1, fun p hp => ?_, h1.2.2.1, i1 e h1.2.2.2 h2 fun p hp q hq => hd p (by rw [toL_nd]; simp [hp]) q hq⟩
    rw [joinT_toL] at hp
    rcases List.mem_append.mp hp with hp | hp
    · exact h1.2.1 p hp
    · rw [toL_nd] at hp
      rcases List.mem_append.mp hp with hp | hp
      · exact above_trans e (h2.1 p hp)
      · rcases List.mem_cons.mp hp with rfl | hp
        · exact e
        · exact above_trans e (h2.2.1 p hp)
  · rw [if_neg e]
    have e' := above_not (by simpa using e) (hd _ m1 _ m2)
    refine ⟨fun p hp => ?_, h2.2.1, i2 e h1 h2.2.2.1 fun p hp q hq => hd p hp q (by rw [toL_nd]; simp [hq]), h2.2.2.2⟩
    rw [joinT_toL] at hp
    rcases List.mem_append.mp hp with hp | hp
    · rw [toL_nd] at hp
      rcases List.mem_append.mp hp with hp | hp
      · exact above_trans e' (h1.1 p hp)
      · rcases List.mem_cons.mp hp with rfl | hp
        · exact e'
        · exact above_trans e' (h1.2.1 p hp)
    · exact h2.1 p hp
theorem lowr_nd {key k : Ky} {w : Th} {A B : List (Ky × Th)} : lowr key (A ++ (k, w) :: B) = lowr key A ++ ((if ahead k key = true then [(k, w)] else []) ++ lowr key B) := by
  unfold lowr
  rw [List.filter_append, List.filter_cons]
  split <;> rfl
theorem uppr_nd {key k : Ky} {w : Th} {A B : List (Ky × Th)} : uppr key (A ++ (k, w) :: B) = uppr key A ++ ((if ahead key k = true then [(k, w)] else []) ++ uppr key B) := by
  unfold uppr
  rw [List.filter_append, List.filter_cons]
  split <;> rfl
/-- a key that is above a tree's is not in it -/
theorem hp_fresh {key : Ky} {t : Tr} (h : t.hp) (ha : ∀ l k w r, t = .nd l k w r → above key k = true) : ∀ p ∈ t.toL, above key p.1 = true := by
  cases t with
  | lf => intro p hp; exact absurd hp (by simp [Tr.toL])
  | nd l k w r =>
    have a := ha l k w r rfl
    intro p hp
    rw [toL_nd] at hp
    rcases List.mem_append.mp hp with hp | hp
    · exact above_trans a (h.1 p hp)
    · rcases List.mem_cons.mp hp with rfl | hp
      · exact a
      · exact above_trans a (h.2.1 p hp)
theorem notl_uppr {key : Ky} {L : List (Ky × Th)} (h : ∀ p ∈ L, p.1 ≠ key) : notl key L = uppr key L := by
  unfold notl uppr
  refine List.filter_congr fun p hp => ?_
  cases e : ahead p.1 key with
  | true => rw [ahead_asymm e]; rfl
  | false => rw [ahead_not e (h p hp)]; rfl
theorem putT_toL {key : Ky} {worth : Th} : ∀ {t : Tr}, Srt t.toL → t.hp → (putT key worth t).toL = lowr key t.toL ++ (key, worth) :: uppr key t.toL
  | .lf, _, _ => rfl
  | .nd l k w r, h, hh => by
    obtain ⟨h1, h2, h3, h4, h5⟩ := srt_nd h
    rw [putT_nd]
    by_cases e : k = key
    · rw [if_pos e]
      subst e
      rw [toL_nd, toL_nd, lowr_nd, uppr_nd, ahead_irrefl]
      have e1 : lowr k l.toL = l.toL := filter_all h3
      have e2 : lowr k r.toL = [] := filter_none fun p hp => ahead_asymm (h4 p hp)
      have e3 : uppr k l.toL = [] := filter_none fun p hp => ahead_asymm (h3 p hp)
      have e4 : uppr k r.toL = r.toL := filter_all h4
      rw [e1, e2, e3, e4]
      simp
    · rw [if_neg e]
      by_cases a : above key k = true
      · rw [if_pos a, toL_nd]
        have q := partT_toL (key := key) h
        have fr := hp_fresh (key := key) (t := .nd l k w r) hh (fun _ _ _ _ z => by cases z; exact a)
        rw [q.1, q.2, notl_uppr fun p hp => (above_ne (fr p hp)).symm]
      · rw [if_neg a]
        by_cases b : ahead key k = true
        · rw [if_pos b, toL_nd, putT_toL h1 hh.2.2.1, toL_nd, lowr_nd, uppr_nd]
          have e1 : lowr key r.toL = [] := filter_none fun p hp => ahead_asymm (ahead_trans b (h4 p hp))
          have e2 : uppr key r.toL = r.toL := filter_all fun p hp => ahead_trans b (h4 p hp)
          rw [e1, e2, if_pos b, if_neg (by rw [ahead_asymm b]; decide)]
          simp
        · rw [if_neg b, toL_nd, putT_toL h2 hh.2.2.2, toL_nd, lowr_nd, uppr_nd]
          have b' := ahead_not (by simpa using b) (fun z => e z.symm)
          have e1 : lowr key l.toL = l.toL := filter_all fun p hp => ahead_trans (h3 p hp) b'
          have e2 : uppr key l.toL = [] := filter_none fun p hp => ahead_asymm (ahead_trans (h3 p hp) b')
          rw [e1, e2, if_pos b', if_neg b]
          simp
theorem put_srt {key : Ky} {worth : Th} {L : List (Ky × Th)} (h : Srt L) : Srt (lowr key L ++ (key, worth) :: uppr key L) :=
  srt_mk (h.filter _) (h.filter _) (fun p hp => (List.mem_filter.mp hp).2) fun p hp => (List.mem_filter.mp hp).2
theorem putT_mem {key : Ky} {worth : Th} {t : Tr} (h : Srt t.toL) (hh : t.hp) {p : Ky × Th} (hp : p ∈ (putT key worth t).toL) : p.1 = key ∨ p ∈ t.toL := by
  rw [putT_toL h hh] at hp
  rcases List.mem_append.mp hp with hp | hp
  · exact .inr (List.mem_filter.mp hp).1
  · rcases List.mem_cons.mp hp with rfl | hp
    · exact .inl rfl
    · exact .inr (List.mem_filter.mp hp).1
theorem putT_hp {key : Ky} {worth : Th} : ∀ {t : Tr}, Srt t.toL → t.hp → (putT key worth t).hp
  | .lf, _, _ => ⟨fun p hp => absurd hp (by simp [Tr.toL]), fun p hp => absurd hp (by simp [Tr.toL]), trivial, trivial⟩
  | .nd l k w r, h, hh => by
    obtain ⟨h1, h2, h3, h4, h5⟩ := srt_nd h
    rw [putT_nd]
    by_cases e : k = key
    · rw [if_pos e, ← e]
      exact hh
    · rw [if_neg e]
      by_cases a : above key k = true
      · rw [if_pos a]
        have fr := hp_fresh (key := key) (t := .nd l k w r) hh (fun _ _ _ _ z => by cases z; exact a)
        have sb := partT_sub (key := key) (.nd l k w r)
        have ph := partT_hp (key := key) hh
        exact ⟨fun p hp => fr p (sb.1 p hp), fun p hp => fr p (sb.2 p hp), ph.1, ph.2⟩
      · rw [if_neg a]
        have a' := above_not (by simpa using a) (fun z => e z.symm)
        by_cases b : ahead key k = true
        · rw [if_pos b]
          refine ⟨fun p hp => ?_, hh.2.1, putT_hp h1 hh.2.2.1, hh.2.2.2⟩
          rcases putT_mem h1 hh.2.2.1 hp with q | q
          · rw [q]; exact a'
          · exact hh.1 p q
        · rw [if_neg b]
          refine ⟨hh.1, fun p hp => ?_, hh.2.2.1, putT_hp h2 hh.2.2.2⟩
          rcases putT_mem h2 hh.2.2.2 hp with q | q
          · rw [q]; exact a'
          · exact hh.2.1 p q
theorem cutT_toL {key : Ky} : ∀ {t : Tr}, Srt t.toL → (cutT key t).toL = dp t.toL key
  | .lf, _ => rfl
  | .nd l k w r, h => by
    obtain ⟨h1, h2, h3, h4, h5⟩ := srt_nd h
    rw [cutT_nd]
    unfold dp at *
    rw [toL_nd, List.filter_append, List.filter_cons]
    by_cases e : k = key
    · rw [if_pos e, joinT_toL]
      have e1 : l.toL.filter (fun p => decide (p.1 ≠ key)) = l.toL := filter_all fun p hp => by simp; exact e ▸ ahead_ne (h3 p hp)
      have e2 : r.toL.filter (fun p => decide (p.1 ≠ key)) = r.toL := filter_all fun p hp => by simp; exact fun z => ahead_ne (h4 p hp) (e.trans z.symm)
      rw [e1, e2, if_neg (by simp [e])]
    · rw [if_neg e]
      have ek : decide ((k, w).1 ≠ key) = true := by simpa using e
      by_cases a : ahead key k = true
      · rw [if_pos a, toL_nd, cutT_toL h1]
        have e2 : r.toL.filter (fun p => decide (p.1 ≠ key)) = r.toL := filter_all fun p hp => by simp; exact fun z => ahead_ne (ahead_trans a (h4 p hp)) z.symm
        rw [e2, if_pos ek]; rfl
      · rw [if_neg a, toL_nd, cutT_toL h2]
        have a' := ahead_not (by simpa using a) (fun z => e z.symm)
        have e1 : l.toL.filter (fun p => decide (p.1 ≠ key)) = l.toL := filter_all fun p hp => by simp; exact ahead_ne (ahead_trans (h3 p hp) a')
        rw [e1, if_pos ek]; rfl
theorem cutT_hp {key : Ky} : ∀ {t : Tr}, Srt t.toL → t.hp → (cutT key t).hp
  | .lf, _, _ => trivial
  | .nd l k w r, h, hh => by
    obtain ⟨h1, h2, h3, h4, h5⟩ := srt_nd h
    rw [cutT_nd]
    by_cases e : k = key
    · rw [if_pos e]
      exact joinT_hp l r hh.2.2.1 hh.2.2.2 fun p hp q hq => ahead_ne (h5 p hp q hq)
    · rw [if_neg e]
      by_cases a : ahead key k = true
      · rw [if_pos a]
        refine ⟨fun p hp => ?_, hh.2.1, cutT_hp h1 hh.2.2.1, hh.2.2.2⟩
        rw [cutT_toL h1] at hp
        exact hh.1 p (List.mem_filter.mp hp).1
      · rw [if_neg a]
        refine ⟨hh.1, fun p hp => ?_, hh.2.2.1, cutT_hp h2 hh.2.2.2⟩
        rw [cutT_toL h2] at hp
        exact hh.2.1 p (List.mem_filter.mp hp).1

/-! ### a tree and a table -/
structure Good (t : Tr) : Prop where
  srt : Srt t.toL
  hp : t.hp
  ok : t.ok
theorem good_lf : Good .lf := ⟨List.Pairwise.nil, trivial, trivial⟩
theorem Good.put {t : Tr} (h : Good t) {key : Ky} {worth : Th} (ok : (putT key worth t).ok) : Good (putT key worth t) := ⟨by rw [putT_toL h.srt h.hp]; exact put_srt h.srt, putT_hp h.srt h.hp, ok⟩
theorem Good.cut {t : Tr} (h : Good t) {key : Ky} (ok : (cutT key t).ok) : Good (cutT key t) := ⟨by rw [cutT_toL h.srt]; exact h.srt.filter _, cutT_hp h.srt h.hp, ok⟩
/-- the table's pairs are the tree's -/
structure Tells (kvs : List (Ky × Th)) (t : Tr) : Prop where
  at_ : ∀ k, lk kvs k = lk t.toL k
  nd : (kvs.map (·.1)).Nodup
theorem tells_nil : Tells [] .lf := ⟨fun _ => rfl, List.nodup_nil⟩
theorem Tells.put {kvs : List (Ky × Th)} {t : Tr} (T : Tells kvs t) (h : Good t) (key : Ky) (worth : Th) : Tells (pt kvs key worth) (putT key worth t) := by
  refine ⟨fun k => ?_, pt_nodup T.nd _ _⟩
  rw [lk_pt, putT_toL h.srt h.hp, lk_app, lk_cons]
  unfold lowr uppr
  rw [lk_filter (fun k => ahead k key), lk_filter (fun k => ahead key k), T.at_ k]
  by_cases e : k = key
  · rw [if_pos e, e, ahead_irrefl, if_neg (by decide), if_pos rfl]; rfl
  · rw [if_neg e, if_neg (show ¬ (key, worth).1 = k from fun z => e z.symm)]
    rcases ahead_tri k key with a | a | a
    · rw [if_pos a, ahead_asymm a, if_neg (by decide), Option.or_none]
    · exact absurd a e
    · rw [ahead_asymm a, if_neg (by decide), if_pos a]; rfl
theorem Tells.cut {kvs : List (Ky × Th)} {t : Tr} (T : Tells kvs t) (h : Good t) (key : Ky) : Tells (dp kvs key) (cutT key t) := by
  refine ⟨fun k => ?_, ?_⟩
  · rw [lk_dp, cutT_toL h.srt, lk_dp, T.at_ k]
  · unfold dp
    exact (List.Sublist.map _ List.filter_sublist).nodup T.nd
/-- strictly rising lists of the same things are one -/
theorem rise_unique {α : Type} {R : α → α → Prop} (irr : ∀ a, ¬ R a a) (tr : ∀ a b c, R a b → R b c → R a c) : ∀ {A B : List α}, A.Pairwise R → B.Pairwise R → (∀ x, x ∈ A ↔ x ∈ B) → A = B
  | [], [], _, _, _ => rfl
  | [], b :: B, _, _, h => absurd ((h b).mpr List.mem_cons_self) (by simp)
  | a :: A, [], _, _, h => absurd ((h a).mp List.mem_cons_self) (by simp)
  | a :: A, b :: B, hA, hB, h => by
    rw [List.pairwise_cons] at hA hB
    have e : a = b := by
      rcases List.mem_cons.mp ((h a).mp List.mem_cons_self) with q | q
      · exact q
      · rcases List.mem_cons.mp ((h b).mpr List.mem_cons_self) with q2 | q2
        · exact q2.symm
        · exact absurd (tr _ _ _ (hA.1 b q2) (hB.1 a q)) (irr a)
    subst e
    rw [rise_unique irr tr hA.2 hB.2 fun x => ?_]
    refine ⟨fun hx => ?_, fun hx => ?_⟩
    · rcases List.mem_cons.mp ((h x).mp (List.mem_cons_of_mem _ hx)) with q | q
      · rw [q] at hx; exact absurd (hA.1 a hx) (irr a)
      · exact q
    · rcases List.mem_cons.mp ((h x).mpr (List.mem_cons_of_mem _ hx)) with q | q
      · rw [q] at hx; exact absurd (hB.1 a hx) (irr a)
      · exact q
def Rise (ks : List Ky) : Prop := ks.Pairwise fun a b => ahead a b = true
theorem rise_keys {kvs : List (Ky × Th)} {t : Tr} (T : Tells kvs t) (h : Good t) {ks : List Ky} (hr : Rise ks) (hm : ∀ k, k ∈ ks ↔ k ∈ kvs.map (·.1)) : ks = t.toL.map (·.1) := by
  refine rise_unique (R := fun a b => ahead a b = true) (fun a z => by rw [ahead_irrefl] at z; cases z) (fun a b c x y => ahead_trans x y) hr (List.pairwise_map.mpr h.srt) fun k => ?_
  rw [hm k, ← lk_key, T.at_ k, lk_key]
/-- the pairs of the keys within bounds, in order -/
theorem within_pairs {kvs : List (Ky × Th)} {t : Tr} (T : Tells kvs t) (h : Good t) (lo hi : Option Ky) : ((t.toL.map (·.1)).filter fun k => isIn lo hi k).map (fun k => (k, (lk kvs k).getD .non)) = cut_ lo hi t.toL := by
  unfold cut_
  have nd := srt_nodup h.srt
  have key : ∀ L : List (Ky × Th), (∀ p ∈ L, lk kvs p.1 = some p.2) → ((L.map (·.1)).filter fun k => isIn lo hi k).map (fun k => (k, (lk kvs k).getD .non)) = L.filter fun p => isIn lo hi p.1 := by
    intro L
    induction L with
    | nil => intro _; rfl
    | cons p r ih =>
      intro hp
      have ih := ih fun q hq => hp q (List.mem_cons_of_mem _ hq)
      rw [List.map_cons, List.filter_cons, List.filter_cons]
      by_cases e : isIn lo hi p.1 = true
      · rw [if_pos e, if_pos e, List.map_cons, ih, hp p List.mem_cons_self]; rfl
      · rw [if_neg e, if_neg e, ih]
  exact key _ fun p hp => by rw [T.at_]; exact lk_of nd hp

/-! ### what asks answer -/
def nthL (n : Int) (L : List (Ky × Th)) : Option (Ky × Th) := if n < 0 then none else L[n.toNat]?
def Aq.plain (L : List (Ky × Th)) : Aq → Option PyData
  | .find k => some ((lk L k).getD .non).data
  | .stretch lo hi => some (.list ((cut_ lo hi L).map pairD))
  | .count lo hi => some (.int ((cut_ lo hi L).length : Int))
  | .nth n => some (optD (nthL n L))
  | .put _ _ => none
  | .cut _ => none
def Aq.okA : Aq → Prop
  | .find k => k.okK = true
  | .stretch lo hi => (∀ a, lo = some a → a.okK = true) ∧ ∀ b, hi = some b → b.okK = true
  | .count lo hi => (∀ a, lo = some a → a.okK = true) ∧ ∀ b, hi = some b → b.okK = true
  | .nth _ => True
  | .put k w => k.okK = true ∧ w ≠ .non ∧ w.fitW = true
  | .cut k => k.okK = true
theorem cut_empty {lo hi : Option Ky} (h : isEmpty lo hi = true) (L : List (Ky × Th)) : cut_ lo hi L = [] := by
  cases lo with
  | none => simp [isEmpty] at h
  | some a =>
    cases hi with
    | none => simp [isEmpty] at h
    | some b =>
      have hab : ahead a b = false := by simpa [isEmpty] using h
      refine filter_none fun p _ => ?_
      cases e : isIn (some a) (some b) p.1 with
      | false => rfl
      | true =>
        simp only [isIn, notBelow, goesR, Bool.and_eq_true, Bool.not_eq_true'] at e
        rcases ahead_tri a p.1 with q | q | q
        · rw [ahead_trans q e.2] at hab; cases hab
        · rw [q, e.2] at hab; cases hab
        · rw [q] at e; exact absurd e.1 (by decide)
theorem aq_ok {g : Int → Option Th} {N : Prop} {T : Tr} {m : Nat} {Q : PyData → VS → Prop} (hT : Holds g T) (h : Good T) (hz : T.sz ≤ 20) (a : Aq) (oa : a.okA) (s : VS) (S : Stt g s (m + 200)) (hQ : ∀ d s', Stt g s' m → (∀ e, a.plain T.toL = some e → d = e) → Q d s') : wpr (a.prog T.root) s Q N fun _ _ => True := by
  cases a with
  | find k =>
    show wpr (Prog.bind _ _) s Q N _
    rw [wp_bind]
    refine found_ok (m := m) T fuelP 301 s (S.less (by omega)) hT h.ok (by omega) (by omega) (by show T.sz < 40; omega) fun s' S' => hQ _ s' S' fun e he => ?_
    cases he
    rw [findT_lk h.srt]
  | stretch lo hi =>
    show wpr (Prog.bind _ _) s Q N _
    rw [wp_bind]
    unfold stretchQ
    by_cases e : isEmpty lo hi = true
    · rw [if_pos e]
      refine hQ _ s (S.less (by omega)) fun d hd => ?_
      cases hd
      rw [cut_empty e]
    · rw [if_neg e]
      refine stretch_fuel' (f := 1 + (3 * T.sz + 1)) (by show 1 + (3 * T.sz + 1) ≤ 100; omega) (stretch_ok T 1 m 301 s [] [] (S.less (by omega)) hT h.ok (by omega) (by omega) h.srt fun s' S' => ?_)
      refine hQ _ s' S' fun d hd => ?_
      cases hd
      rfl
  | count lo hi =>
    show wpr (Prog.bind _ _) s Q N _
    rw [wp_bind]
    unfold countQ
    by_cases e : isEmpty lo hi = true
    · rw [if_pos e]
      refine hQ _ s (S.less (by omega)) fun d hd => ?_
      cases hd
      rw [cut_empty e]; rfl
    · rw [if_neg e]
      have cl := cut_len (lo := lo) (hi := hi) h.srt (by simpa using e)
      rw [wp_bind]
      have first : ∀ (Q' : Int → VS → Prop), (∀ s', Stt g s' (m + 100) → Q' (loN T.toL lo) s') → wpr (firstQ T.root lo) s Q' N fun _ _ => True := by
        intro Q' hq
        cases lo with
        | none => exact hq s (S.less (by omega))
        | some a =>
          refine ahead_ok (m := m + 100) T fuelP 0 301 s (S.less (by omega)) hT h.ok (by omega) (by omega) (by show T.sz < 40; omega) h.srt fun s' S' => ?_
          have q := hq s' S'
          rw [Int.zero_add]
          exact q
      refine first _ fun s1 S1 => ?_
      cases hi with
      | none =>
        show wpr (Prog.bind _ _) s1 _ N _
        rw [wp_bind]
        refine size_ok (m := m) (S1.less (by omega)) hT h.ok (by omega) fun s2 S2 _ _ => hQ _ s2 S2 fun d hd => ?_
        cases hd
        rw [cl]
        unfold hiN
        rw [toL_len]
      | some b =>
        show wpr (Prog.bind _ _) s1 _ N _
        rw [wp_bind]
        refine ahead_ok (m := m) T fuelP 0 301 s1 (S1.less (by omega)) hT h.ok (by omega) (by omega) (by show T.sz < 40; omega) h.srt fun s2 S2 => hQ _ s2 S2 fun d hd => ?_
        cases hd
        rw [cl, Int.zero_add]
        rfl
  | nth n =>
    show wpr (Prog.bind _ _) s Q N _
    rw [wp_bind]
    unfold nthQ
    by_cases e : n < 0
    · rw [if_pos e]
      refine hQ _ s (S.less (by omega)) fun d hd => ?_
      cases hd
      unfold nthL
      rw [if_pos e]
    · rw [if_neg e]
      have en : n = (n.toNat : Int) := by omega
      rw [en]
      refine nth_ok (m := m) T fuelP n.toNat 301 s (S.less (by omega)) hT h.ok (by omega) (by omega) (by show T.sz < 40; omega) fun s' S' => hQ _ s' S' fun d hd => ?_
      cases hd
      unfold nthL
      rw [if_neg (by omega)]
  | put k w =>
    show wpr (Prog.bind _ _) s Q N _
    rw [wp_bind]
    exact putP_ok (m := m) oa hT h.ok (by omega) (fun s' S' _ _ _ => hQ _ s' S' fun e he => nomatch he) T fuelP 301 [] s .nil (S.less (by simp; omega)) (by omega) (by show T.sz < 40; omega)
  | cut k =>
    show wpr (Prog.bind _ _) s Q N _
    rw [wp_bind]
    exact cutP_ok (m := m) hT h.ok (by omega) (fun s' S' _ _ _ => hQ _ s' S' fun e he => nomatch he) T fuelP 301 [] s .nil (S.less (by simp; omega)) (by omega) (by show T.sz < 40; omega)
theorem also_ok {g : Int → Option Th} {N : Prop} {T : Tr} {Q : List PyData → VS → Prop} (hT : Holds g T) (h : Good T) (hz : T.sz ≤ 20) : ∀ (l : List Aq) (acc : List PyData) (m : Nat) (s : VS), (∀ a ∈ l, a.okA) → Stt g s (m + 200 * l.length) →
    (∀ ds s', Stt g s' m → Q ds s') → wpr (alsoP T.root l acc) s Q N fun _ _ => True
  | [], acc, m, s, _, S, hQ => hQ acc s S
  | a :: r, acc, m, s, ho, S, hQ => by
    show wpr (Prog.bind _ _) s Q N _
    rw [wp_bind]
    exact aq_ok (m := m + 200 * r.length) hT h hz a (ho a List.mem_cons_self) s (S.less (by rw [List.length_cons]; omega)) fun d s' S' _ => also_ok hT h hz r _ m s' (fun b hb => ho b (List.mem_cons_of_mem _ hb)) S' hQ
def Ak.okA : Ak → Prop
  | .one a => a.okA
  | .also_ l => l.length ≤ 2 ∧ ∀ a ∈ l, a.okA
def Ak.plain (L : List (Ky × Th)) : Ak → Option PyData
  | .one a => a.plain L
  | .also_ _ => none
theorem ak_ok {g : Int → Option Th} {N : Prop} {T : Tr} {Q : PyData → VS → Prop} (hT : Holds g T) (h : Good T) (hz : T.sz ≤ 20) (a : Ak) (oa : a.okA) (s : VS) (S : Stt g s 400) (hQ : ∀ d s', s'.Ok → (∀ e, a.plain T.toL = some e → d = e) → Q d s') : wpr (a.prog T.root) s Q N fun _ _ => True := by
  cases a with
  | one a => exact aq_ok (m := 0) hT h hz a oa s (S.less (by omega)) fun d s' S' hp => hQ d s' S'.ok hp
  | also_ l =>
    show wpr (Prog.bind _ _) s Q N _
    rw [wp_bind]
    exact also_ok hT h hz l [] 0 s oa.2 (S.less (by have := oa.1; omega)) fun ds s' S' => hQ _ s' S'.ok fun e he => nomatch he
end PV
set_option Elab.async false
set_option linter.all false
set_option maxRecDepth 100000
/-! Keepers that grow, papers, checkers. -/
namespace PV
open PySem

/-! ### a keeper's state -/
def Unlike (x y : Th) : Prop := x ≠ y ∧ sealOf x = sealOf y
structure KSt (s : VS) (T : Tr) (i : Nat) : Prop where
  ok : s.Ok
  agr : s.Agr
  below : s.below = []
  noted : s.noted = []
  holds : Holds s.view T
  good : Good T
  sz : T.sz ≤ i
  len : s.own.length ≤ 300 * i
theorem kst_nil : KSt ⟨[], [], []⟩ .lf 0 :=
  ⟨⟨fun _ _ h => (nomatch h), fun _ _ h => (nomatch h), fun _ _ h => (nomatch h), List.nodup_nil, List.nodup_nil, List.nodup_nil⟩, fun _ _ _ h _ => (nomatch h), rfl, rfl, trivial, good_lf, Nat.le_refl _, Nat.le_refl _⟩
theorem KSt.st {s : VS} {T : Tr} {i : Nat} (K : KSt s T i) (h : i ≤ 100) : Stt s.view s 400 := ⟨K.ok, K.agr, fun _ _ h => h, by have := K.len; have e : cap = 1000000 := rfl; omega, by rw [K.noted]; decide⟩
theorem none_noted {s : VS} (k : s.Ok) (h : s.below = []) : s.noted = [] := by
  cases e : s.noted with
  | nil => rfl
  | cons p r =>
    have h1 : lk s.noted p.1 = some p.2 := by rw [e, lk_cons, if_pos rfl]
    have h2 := k.noted _ _ h1
    rw [h] at h2
    cases h2
/-- a change of a keeper: what the run gives besides -/
theorem grows {p : Prog Int} {s : VS} {T T' : Tr} {i : Nat} (K : KSt s T i) (hp : p.le 300) (h : wpr p s (fun n s' => n = T'.root ∧ Holds s'.view T' ∧ Good T' ∧ T'.sz ≤ i + 1) False fun _ _ => True) :
    wpr p s (fun n s' => n = T'.root ∧ KSt s' T' (i + 1)) False Unlike := by
  have h2 := run_keeps p s K.ok K.agr h
  have h3 := run_len p 300 s hp K.ok K.agr
  unfold wpr at h2 ⊢
  cases e : run p s with
  | ok n s' =>
    rw [e] at h2
    obtain ⟨⟨h4, h5, h6, h7⟩, k, g, x⟩ := h2
    have h8 := (h3 n s' e).1
    have hb : s'.below = [] := x.below.trans K.below
    exact ⟨h4, k, g, hb, none_noted k hb, h5, h6, h7, by have := K.len; omega⟩
  | nop => rw [e] at h2; exact h2
  | clash x y => rw [e] at h2; exact h2.2
  | bad => rw [e] at h2; exact h2
theorem put_step {s : VS} {T : Tr} {i : Nat} (K : KSt s T i) (hi : i ≤ 20) {key : Ky} {worth : Th} (hk : key.okK = true ∧ worth ≠ .non ∧ worth.fitW = true) :
    wpr (putQ T.root key worth) s (fun n s' => n = (putT key worth T).root ∧ KSt s' (putT key worth T) (i + 1)) False Unlike := by
  have hz := K.sz
  refine grows K (le_mono _ (by decide) (putP_le fuelP _ _ _ _ [])) ?_
  exact putP_ok (m := 0) hk K.holds K.good.ok (by omega) (fun s' S' H' ok' hs => ⟨rfl, H', K.good.put ok', by omega⟩) T fuelP 301 [] s .nil ((K.st (by omega)).less (by simp; omega)) (by omega) (by show T.sz < 40; omega)
theorem cut_step {s : VS} {T : Tr} {i : Nat} (K : KSt s T i) (hi : i ≤ 20) {key : Ky} :
    wpr (cutQ T.root key) s (fun n s' => n = (cutT key T).root ∧ KSt s' (cutT key T) (i + 1)) False Unlike := by
  have hz := K.sz
  refine grows K (le_mono _ (by decide) (cutP_le T.root fuelP _ _ _ [])) ?_
  exact cutP_ok (m := 0) K.holds K.good.ok (by omega) (fun s' S' H' ok' hs => ⟨rfl, H', K.good.cut ok', by omega⟩) T fuelP 301 [] s .nil ((K.st (by omega)).less (by simp; omega)) (by omega) (by show T.sz < 40; omega)

/-! ### a reader over it -/
def rdr (k : VS) : VS := ⟨[], k.own, []⟩
theorem rdr_ok {k : VS} (h : k.Ok) : (rdr k).Ok := ⟨fun _ _ h => (nomatch h), h.own, fun _ _ h => (nomatch h), List.nodup_nil, h.nd1, List.nodup_nil⟩
theorem rdr_agr (k : VS) : (rdr k).Agr := fun _ _ _ h _ => nomatch h
theorem rdr_view {k : VS} (h : k.below = []) : (rdr k).view = k.view := by
  funext n
  unfold VS.view rdr
  rw [h]
  show (none : Option Th).or (lk k.own n) = (lk k.own n).or none
  rw [Option.or_none]; rfl
theorem reader_run {k : VS} {T : Tr} {i : Nat} (K : KSt k T i) (hi : i ≤ 20) (a : Ak) (oa : a.okA) : wpr (a.prog T.root) (rdr k) (fun d s' => s'.Ok ∧ s'.below = k.own ∧ ∀ e, a.plain T.toL = some e → d = e) False Unlike := by
  have hz := K.sz
  have S : Stt k.view (rdr k) 400 := ⟨rdr_ok K.ok, rdr_agr k, fun n t h => by rw [rdr_view K.below]; exact h, (show 0 + 400 ≤ cap by decide), (show 0 + 400 ≤ cap by decide)⟩
  have h := ak_ok (N := False) (T := T) (Q := fun d s' => s'.Ok ∧ ∀ e, a.plain T.toL = some e → d = e) K.holds K.good (by omega) a oa (rdr k) S fun d s' h1 h2 => ⟨h1, h2⟩
  exact wp_mono (run_keeps _ _ (rdr_ok K.ok) (rdr_agr k) h) (fun d s' ⟨⟨h1, h2⟩, _, _, x⟩ => ⟨h1, x.below, h2⟩) id fun x y z => z.2

/-! ### papers -/
structure IsThings (m : Mp) (l : List Th) : Prop where
  rise : (l.map sealOf).Pairwise (· < ·)
  mem : ∀ t, t ∈ l ↔ lk m (sealOf t) = some t
  len : l.length = m.length
theorem things_unique {m : Mp} {l l' : List Th} (h : IsThings m l) (h' : IsThings m l') : l = l' :=
  rise_unique (R := fun a b => sealOf a < sealOf b) (fun a => Int.lt_irrefl _) (fun a b c => Int.lt_trans) (List.pairwise_map.mp h.rise) (List.pairwise_map.mp h'.rise) fun t => (h.mem t).trans (h'.mem t).symm
def wit (l : List Th) : VS := ⟨l.map fun t => (sealOf t, t), [], []⟩
theorem wit_keys (l : List Th) : (wit l).own.map (·.1) = l.map sealOf := by
  show (l.map fun t => (sealOf t, t)).map (·.1) = l.map sealOf
  rw [List.map_map]; rfl
theorem rise_nodup {l : List Th} (h : (l.map sealOf).Pairwise (· < ·)) : (l.map sealOf).Nodup := h.imp fun {a b} hab => Int.ne_of_lt hab
theorem wit_lk {l : List Th} (h : (l.map sealOf).Pairwise (· < ·)) (n : Int) (t : Th) : lk (wit l).own n = some t ↔ t ∈ l ∧ sealOf t = n := by
  constructor
  · intro e
    obtain ⟨u, hu, q⟩ := List.mem_map.mp (lk_mem e)
    cases q
    exact ⟨hu, rfl⟩
  · rintro ⟨hm, e⟩
    refine lk_of (by rw [wit_keys]; exact rise_nodup h) (List.mem_map.mpr ⟨t, hm, by rw [e]⟩)
theorem opt_ext {a b : Option Th} (h : ∀ t, a = some t ↔ b = some t) : a = b := by
  cases a with
  | none =>
    cases b with
    | none => rfl
    | some y => exact ((h y).mpr rfl)
  | some x => exact ((h x).mp rfl).symm
section
variable {α : Type} {p : Prog α} {k : VS} {a : α} {s' : VS} {l : List Th}
theorem noted_seal (ok : s'.Ok) {n : Int} {t : Th} (h : lk s'.noted n = some t) : sealOf t = n := (ok.below n t (ok.noted n t h)).1
theorem paper_in (ok : s'.Ok) (hb : s'.below = k.own) (hl : IsThings s'.noted l) {t : Th} (h : t ∈ l) : lk k.own (sealOf t) = some t ∧ t.fit = true := by
  have q := ok.noted _ _ ((hl.mem t).mp h)
  exact ⟨by rw [← hb]; exact q, (ok.below _ _ q).2⟩
/-- over the paper the answer is the same -/
theorem paper_again (hk : k.Ok) (hp : p.le 600) (e : run p (rdr k) = .ok a s') (hl : IsThings s'.noted l) : ∃ w', run p (wit l) = .ok a w' := by
  have z := run_keeps (Q := fun b s2 => b = a ∧ s2 = s') (N := False) (C := fun _ _ => False) p (rdr k) (rdr_ok hk) (rdr_agr k) (by unfold wpr; rw [e]; exact ⟨rfl, rfl⟩)
  unfold wpr at z
  rw [e] at z
  obtain ⟨_, ok', _, x⟩ := z
  have hn := (run_len p 600 (rdr k) hp (rdr_ok hk) (rdr_agr k) a s' e).2
  refine witness p 600 (rdr k) s' a (wit l) (lk s'.noted) hp (rdr_ok hk) (rdr_agr k) e (fun n t h => ?_) (fun _ _ h => h) ⟨rfl, fun n => ?_⟩ ?_
  · have q := ok'.noted n t h
    rw [x.below] at q
    exact q
  · show _ = (none : Option Th).or (lk s'.noted n)
    refine opt_ext fun t => ?_
    rw [wit_lk hl.rise]
    constructor
    · rintro ⟨h1, h2⟩
      rw [← h2]
      exact (hl.mem t).mp h1
    · intro h
      have h' : lk s'.noted n = some t := h
      have h2 := noted_seal ok' h'
      exact ⟨(hl.mem t).mpr (by rw [h2]; exact h'), h2⟩
  · have e1 : (wit l).own.length = l.length := List.length_map _
    have e2 : (rdr k).noted.length = 0 := rfl
    have e3 : cap = 1000000 := rfl
    rw [e1, hl.len]
    omega
/-- with one thing less there is none -/
theorem paper_lacks (hk : k.Ok) (hp : p.le 600) (e : run p (rdr k) = .ok a s') (hl : IsThings s'.noted l) {j : Nat} (hj : j < l.length) : run p (wit (l.take j ++ l.drop (j + 1))) = .nop := by
  have z := run_keeps (Q := fun b s2 => b = a ∧ s2 = s') (N := False) (C := fun _ _ => False) p (rdr k) (rdr_ok hk) (rdr_agr k) (by unfold wpr; rw [e]; exact ⟨rfl, rfl⟩)
  unfold wpr at z
  rw [e] at z
  obtain ⟨_, ok', _, x⟩ := z
  have hn := (run_len p 600 (rdr k) hp (rdr_ok hk) (rdr_agr k) a s' e).2
  have hsplit : l = l.take j ++ l[j] :: l.drop (j + 1) := by rw [List.getElem_cons_drop, List.take_append_drop]
  have hsub : (l.take j ++ l.drop (j + 1)).Sublist l := by
    conv => rhs; rw [hsplit]
    exact List.Sublist.append (List.Sublist.refl _) (List.sublist_cons_self _ _)
  have hrise : ((l.take j ++ l.drop (j + 1)).map sealOf).Pairwise (· < ·) := hl.rise.sublist (hsub.map _)
  have hnot : l[j] ∉ l.take j ++ l.drop (j + 1) := by
    intro hm
    have hr := rise_nodup hl.rise
    rw [hsplit, List.map_append, List.map_cons] at hr
    have hr2 := List.nodup_append.mp hr
    rcases List.mem_append.mp hm with h | h
    · exact hr2.2.2 _ (List.mem_map.mpr ⟨_, h, rfl⟩) _ List.mem_cons_self rfl
    · exact (List.nodup_cons.mp hr2.2.1).1 (List.mem_map.mpr ⟨_, h, rfl⟩)
  have hmem : ∀ t, t ∈ l.take j ++ l.drop (j + 1) ↔ t ∈ l ∧ t ≠ l[j] := by
    intro t
    constructor
    · intro h
      exact ⟨hsub.subset h, fun z => hnot (z ▸ h)⟩
    · rintro ⟨h, hne⟩
      rw [hsplit] at h
      rcases List.mem_append.mp h with h | h
      · exact List.mem_append_left _ h
      · rcases List.mem_cons.mp h with h | h
        · exact absurd h hne
        · exact List.mem_append_right _ h
  have hi := (hl.mem l[j]).mp (List.getElem_mem hj)
  refine lacking (i := sealOf l[j]) p 600 (rdr k) s' a (wit (l.take j ++ l.drop (j + 1))) (fun n => if n = sealOf l[j] then none else lk s'.noted n) hp (rdr_ok hk) (rdr_agr k) e (fun n t h => ?_) (fun n t hne h => ?_) ?_ rfl (by rw [hi]; rfl) ⟨rfl, fun n => ?_⟩ ?_
  · by_cases q : n = sealOf l[j]
    · rw [if_pos q] at h; cases h
    · rw [if_neg q] at h
      have q2 := ok'.noted n t h
      rw [x.below] at q2
      exact q2
  · rw [if_neg hne]; exact h
  · rw [if_pos rfl]
  · show _ = (none : Option Th).or (if n = sealOf l[j] then none else lk s'.noted n)
    refine opt_ext fun t => ?_
    rw [wit_lk hrise, hmem]
    constructor
    · rintro ⟨⟨h1, h2⟩, h3⟩
      have h4 := (hl.mem t).mp h1
      have hne : n ≠ sealOf l[j] := fun z => h2 (by
        rw [h3, z, hi] at h4
        exact (Option.some.inj h4).symm)
      show (if n = sealOf l[j] then none else lk s'.noted n) = some t
      rw [if_neg hne, ← h3]
      exact h4
    · intro h
      have h : (if n = sealOf l[j] then none else lk s'.noted n) = some t := h
      by_cases q : n = sealOf l[j]
      · rw [if_pos q] at h; cases h
      · rw [if_neg q] at h
        have h2 := noted_seal ok' h
        exact ⟨⟨(hl.mem t).mpr (by rw [h2]; exact h), fun z => q (by rw [← h2, z])⟩, h2⟩
  · have e1 : (wit (l.take j ++ l.drop (j + 1))).own.length = (l.take j ++ l.drop (j + 1)).length := List.length_map _
    have e2 : (rdr k).noted.length = 0 := rfl
    have e3 : cap = 1000000 := rfl
    have e4 := hsub.length_le
    have e5 := hl.len
    omega
end
end PV
set_option Elab.async false
set_option linter.all false
set_option maxRecDepth 100000
set_option maxHeartbeats 4000000
/-! The text by places; things in the heap; calls told by name; methods told by the instance. -/
namespace PV
open PySem PySem.Spec PyProof.Rows L2
abbrev Frag := PySem.W.Frag

/-! ### the text -/
def tp (i : Nat) : Stmt := PySem.Challenge.pw_papervault_k52_honest_papers_are_right.main.body.getD i (.Pass ⟨0, 0, 0, 0⟩)
abbrev s_Clash_init : Stmt := inClass (tp 4) 0
abbrev s_text_codes : Stmt := tp 11
abbrev s_codes_of : Stmt := tp 12
abbrev s_seal : Stmt := tp 13
abbrev s_is_number : Stmt := tp 19
abbrev s_is_text : Stmt := tp 20
abbrev s_is_within_things : Stmt := tp 21
abbrev s_is_thing : Stmt := tp 23
abbrev s_kind_of : Stmt := tp 24
abbrev s_side_of : Stmt := tp 25
abbrev s_ahead : Stmt := tp 26
abbrev s_Vault_init : Stmt := inClass (tp 28) 0
abbrev s_Vault_lay : Stmt := inClass (tp 28) 1
abbrev s_Vault_thing : Stmt := inClass (tp 28) 2
abbrev s_Vault_has : Stmt := inClass (tp 28) 3
abbrev s_Keeper_things : Stmt := inClass (tp 29) 0
abbrev s_Reader_init : Stmt := inClass (tp 30) 0
abbrev s_Reader_lay : Stmt := inClass (tp 30) 1
abbrev s_Reader_thing : Stmt := inClass (tp 30) 2
abbrev s_Reader_paper : Stmt := inClass (tp 30) 3
abbrev s_Witness_init : Stmt := inClass (tp 31) 0
abbrev s_answer_with_paper : Stmt := tp 33
abbrev s_checked : Stmt := tp 34
abbrev s_is_whole : Stmt := tp 37
abbrev s_is_node : Stmt := tp 38
abbrev s_node_at : Stmt := tp 39
abbrev s_node_beneath : Stmt := tp 40
abbrev s_size : Stmt := tp 41
abbrev s_size_beneath : Stmt := tp 42
abbrev s_rank : Stmt := tp 43
abbrev s_above : Stmt := tp 44
abbrev s_found : Stmt := tp 47
abbrev s_goes_left : Stmt := tp 48
abbrev s_goes_right : Stmt := tp 49
abbrev s_is_within_trees : Stmt := tp 50
abbrev s_need_counted : Stmt := tp 52
abbrev s_is_empty : Stmt := tp 53
abbrev s_stretch : Stmt := tp 54
abbrev s_ahead_of : Stmt := tp 55
abbrev s_counted : Stmt := tp 56
abbrev s_nth : Stmt := tp 57
abbrev s_part : Stmt := tp 58
abbrev s_joined : Stmt := tp 59
abbrev s_rebuilt : Stmt := tp 60
abbrev s_put : Stmt := tp 61
abbrev s_cut : Stmt := tp 62
abbrev s_Ask_answer : Stmt := inClass (tp 64) 0
abbrev s_Find_init : Stmt := inClass (tp 65) 0
abbrev s_Find_answer : Stmt := inClass (tp 65) 1
abbrev s_Stretch_init : Stmt := inClass (tp 66) 0
abbrev s_Stretch_answer : Stmt := inClass (tp 66) 1
abbrev s_Count_init : Stmt := inClass (tp 67) 0
abbrev s_Count_answer : Stmt := inClass (tp 67) 1
abbrev s_Nth_init : Stmt := inClass (tp 68) 0
abbrev s_Nth_answer : Stmt := inClass (tp 68) 1
abbrev s_Put_init : Stmt := inClass (tp 69) 0
abbrev s_Put_answer : Stmt := inClass (tp 69) 1
abbrev s_Cut_init : Stmt := inClass (tp 70) 0
abbrev s_Cut_answer : Stmt := inClass (tp 70) 1
abbrev s_Also_init : Stmt := inClass (tp 71) 0
abbrev s_Also_answer : Stmt := inClass (tp 71) 1
abbrev s_clash_of : Stmt := tp 73
abbrev s_shown : Stmt := tp 74
abbrev s_law_cell_at : Stmt := tp 76
abbrev s_law_turned : Stmt := tp 77
abbrev s_law_key : Stmt := tp 78
abbrev s_law_worth : Stmt := tp 79
abbrev s_law_rising : Stmt := tp 80
abbrev s_law_before : Stmt := tp 81
abbrev s_law_grown : Stmt := tp 82
abbrev s_law_within : Stmt := tp 83
abbrev s_law_ask : Stmt := tp 84
abbrev s_law_plain : Stmt := tp 85
abbrev s_law_paper_right : Stmt := tp 86
abbrev s_law_lacks : Stmt := tp 87
abbrev s_law_holds : Stmt := tp 88
abbrev s_law : Stmt := tp 89
/-! ### things in the heap -/
mutual
inductive ThA (H : Hp) : V → Th → Prop
  | non : ThA H .non .non
  | int (i : Int) : ThA H (.int i) (.int i)
  | str (s : Str) : ThA H (.str s) (.str s)
  | tup {a : Addr} {xs : List V} {l : List Th} : H a = some (.tup xs) → ThL H xs l → ThA H (.ref a) (.tup l)
inductive ThL (H : Hp) : List V → List Th → Prop
  | nil : ThL H [] []
  | cons {v : V} {t : Th} {vs : List V} {ts : List Th} : ThA H v t → ThL H vs ts → ThL H (v :: vs) (t :: ts)
end
/-- tuples are kept -/
def TK (H H' : Hp) : Prop := ∀ a xs, H a = some (.tup xs) → H' a = some (.tup xs)
theorem TK.refl (H : Hp) : TK H H := fun _ _ h => h
theorem TK.trans {H H1 H2 : Hp} (a : TK H H1) (b : TK H1 H2) : TK H H2 := fun c xs h => b c xs (a c xs h)
theorem TK.of {H H' : Hp} (s : Same H H') : TK H H' := fun a xs h => s a _ h
mutual
theorem ThA.mono {H H' : Hp} (k : TK H H') : ∀ {v : V} {t : Th}, ThA H v t → ThA H' v t
  | _, _, .non => .non
  | _, _, .int i => .int i
  | _, _, .str s => .str s
  | _, _, .tup h r => .tup (k _ _ h) (ThL.mono k r)
theorem ThL.mono {H H' : Hp} (k : TK H H') : ∀ {vs : List V} {ts : List Th}, ThL H vs ts → ThL H' vs ts
  | _, _, .nil => .nil
  | _, _, .cons h r => .cons (ThA.mono k h) (ThL.mono k r)
end
mutual
theorem ThA.dp {K : Frag} {H : Hp} : ∀ {v : V} {t : Th}, ThA H v t → Dp K H v t.data
  | _, _, .non => .non
  | _, _, .int i => .int i
  | _, _, .str s => .str s
  | _, _, .tup h r => by
    rw [Th.data]
    exact .tup (SqT.of h) (ThL.dp r)
theorem ThL.dp {K : Frag} {H : Hp} : ∀ {vs : List V} {ts : List Th}, ThL H vs ts → DpAll K H vs (Th.dataL ts)
  | _, _, .nil => by rw [Th.dataL]; exact .nil
  | _, _, .cons h r => by
    rw [Th.dataL]
    exact .cons (ThA.dp h) (ThL.dp r)
end
theorem ThL.len {H : Hp} : ∀ {vs : List V} {ts : List Th}, ThL H vs ts → vs.length = ts.length
  | _, _, .nil => rfl
  | _, _, .cons _ r => congrArg (· + 1) (ThL.len r)
theorem ThL.at_ {H : Hp} : ∀ {vs : List V} {ts : List Th} {i : Nat} {v : V}, ThL H vs ts → vs[i]? = some v → ∃ t, ts[i]? = some t ∧ ThA H v t
  | _, _, _, _, .nil, h => by simp at h
  | _, _, 0, v, .cons h r, e => by
    simp at e
    subst e
    exact ⟨_, rfl, h⟩
  | _, _, i + 1, v, .cons h r, e => by
    simp at e
    obtain ⟨t, h1, h2⟩ := ThL.at_ (i := i) r e
    exact ⟨t, by simpa using h1, h2⟩
theorem ThL.snoc {H : Hp} {v : V} {t : Th} (h : ThA H v t) : ∀ {vs : List V} {ts : List Th}, ThL H vs ts → ThL H (vs ++ [v]) (ts ++ [t])
  | _, _, .nil => .cons h .nil
  | _, _, .cons a r => .cons a (ThL.snoc h r)
theorem ta_ky {H : Hp} {v : V} {k : Ky} (h : ThA H v k.th) : v = (match k with
    | .int i => V.int i
    | .str s => V.str s) := by
  cases k with
  | int i => cases h; rfl
  | str s => cases h; rfl
def kyV : Ky → V
  | .int i => .int i
  | .str s => .str s
theorem ta_kyV {H : Hp} (k : Ky) : ThA H (kyV k) k.th := by cases k; exact .int _; exact .str _
theorem ta_is {H : Hp} {v : V} {k : Ky} (h : ThA H v k.th) : v = kyV k := by
  cases k with
  | int i => cases h; rfl
  | str s => cases h; rfl
theorem ta_int {H : Hp} {v : V} {i : Int} (h : ThA H v (.int i)) : v = .int i := by cases h; rfl
theorem ta_non {H : Hp} {v : V} {t : Th} (h : ThA H v t) : decide (v = .non) = decide (t = .non) := by
  cases h with
  | non => rw [decide_eq_true rfl, decide_eq_true rfl]
  | int i => rw [decide_eq_false (by simp), decide_eq_false (by simp)]
  | str s => rw [decide_eq_false (by simp), decide_eq_false (by simp)]
  | tup h r => rw [decide_eq_false (by simp), decide_eq_false (by simp)]

/-! ### the text's defs, by name -/
def DefT (K : Frag) (mg : Str → Option Value) (x nm : Str) (st : Stmt) : Prop := ∃ f fd, mg x = some (.ref f) ∧ Fun K nm nm st f fd
def MetT (K : Frag) (C : Addr) (m q : Str) (st : Stmt) : Prop := ∃ f fd, Meth K C m f ∧ Fun K m q st f fd
def IntT (mg : Str → Option Value) (x : Str) (i : Int) : Prop := ∃ t, mg x = some (.int i t)
section
variable {P : Program} {w : World} {K : Frag} {mg : Str → Option Value} {base : Heap} {CX : CXT} {k : Nat} {x nm m q : Str} {ps : List Str} {sp : Sp} {st : Stmt} {C : Addr}
/-- the global x is a def that keeps sp -/
def Cal (P : Program) (w : World) (K : Frag) (mg : Str → Option Value) (base : Heap) (CX : CXT) (k : Nat) (x : Str) (ps : List Str) (sp : Sp) : Prop :=
  ∃ f fd, FnOk P w K mg base CX k f fd ps sp ∧ mg x = some (.ref f) ∧ PySem.W.keepIn K (.ref f) = true ∧ Binds K fd ps []
/-- the method m of the class at C -/
def CalM (P : Program) (w : World) (K : Frag) (mg : Str → Option Value) (base : Heap) (CX : CXT) (k : Nat) (C : Addr) (m : Str) (ps : List Str) (sp : Sp) : Prop :=
  ∃ f fd, FnOk P w K mg base CX k f fd ps sp ∧ Meth K C m f ∧ Binds K fd ps []
abbrev BindT (nm q : Str) (st : Stmt) (ps : List Str) : Prop := ∀ (kV doc pm : Value) (an : Option Addr) (cdv ct : Value) (us : List Value), us.length = ps.length →
  bindArgs (PySem.W.fnOf nm q (defArgs st) (defBody st) (defScope st) .none kV doc pm an cdv ct) ⟨us, []⟩ = pure (ps.zip us)
theorem DefT.cal (D : DefT K mg x nm st) (hF : ∀ f fd, Fun K nm nm st f fd → FnOk P w K mg base CX k f fd ps sp) (hb : BindT nm nm st ps) : Cal P w K mg base CX k x ps sp := by
  obtain ⟨f, fd, e, F⟩ := D
  exact ⟨f, fd, hF f fd F, e, F.kp, F.binds hb⟩
theorem MetT.cal (D : MetT K C m q st) (hF : ∀ f fd, Fun K m q st f fd → FnOk P w K mg base CX k f fd ps sp) (hb : BindT m q st ps) : CalM P w K mg base CX k C m ps sp := by
  obtain ⟨f, fd, e, F⟩ := D
  exact ⟨f, fd, hF f fd F, e, F.binds hb⟩
theorem Cal.mono {j : Nat} (c : Cal P w K mg base CX k x ps sp) (h : k ≤ j) : Cal P w K mg base CX j x ps sp := by
  obtain ⟨f, fd, F, r⟩ := c
  exact ⟨f, fd, F.mono h, r⟩
theorem CalM.mono {j : Nat} (c : CalM P w K mg base CX k C m ps sp) (h : k ≤ j) : CalM P w K mg base CX j C m ps sp := by
  obtain ⟨f, fd, F, r⟩ := c
  exact ⟨f, fd, F.mono h, r⟩
end
section
variable {X : Cx} {CX : CXT} {k : Nat} {x m : Str} {ps : List Str} {sp : Sp} {E : XK} {p pos apos : Pos} {o e : Expr} {es : List Expr} {t : TA} {ta : TE}
theorem pe_cal (c : Cal X.prog X.w X.K X.mg X.base CX k x ps sp) (hr : Room k X.A) (hx : Passes CX X E) (ha : PA X (e :: es) t) (hg : Gl X x := by rfl) (hdb : (x == ("__debug__" : Str)) = false := by decide)
    (he : starEach (e :: es) X.env = (false, eval e X.env) :: starEach es X.env := by rfl) (hpl : (backTo pos (starEach es X.env)).any (·.1) = false := by rfl) : PE X (.Call (.Name x p) (e :: es) [] pos) (tCall sp [] E t) := by
  obtain ⟨f, fd, F, hm, hk, hb⟩ := c
  exact pe_call F hr hg hm hk hb .nil hx ha hdb he hpl
/-- o.m(..), the class told by the instance -/
def tMethP (X : Cx) (CX : CXT) (k : Nat) (m : Str) (E : XK) (ta : TE) (t : TA) : TE := fun σ H Q => ta σ H fun x H1 => ∃ (a C dx : Addr) (fs : List (Str × V)) (ps : List Str) (sp : Sp), x = .ref a ∧ H1 a = some (.ins C dx fs) ∧ fs.lookup m = none ∧ Cls X.K C ∧
  CalM X.prog X.w X.K X.mg X.base CX k C m ps sp ∧ t σ H1 fun vs H2 => sp (x :: vs) H2 Q E
theorem pe_methP {pl : Sem Bool} (he : PE X o ta) (hr : Room k X.A) (hx : Passes CX X E) (ha : PA X (e :: es) t)
    (hst : starEach (e :: es) X.env = (false, eval e X.env) :: starEach es X.env := by rfl) (hpl : (backTo pos (starEach es X.env)).any (·.1) = false := by rfl)
    (ht : eval (.Call (.Attribute o m apos) (e :: es) [] pos) X.env = (do
      let v ← eval o X.env
      standAt apos.atName
      let (g, fst) ← holding [v] (getMethod v m pl)
      callWith pos g fst (backTo pos (starEach (e :: es) X.env)) (backToKw pos (keywordEach [] X.env))) := by rfl) :
    PE X (.Call (.Attribute o m apos) (e :: es) [] pos) (tMethP X CX k m E ta t) := by
  refine ⟨fun pins s σ H Q I h => ?_⟩
  refine PySem.W.methodCall_KW (pl := pl) (thn (he.run pins s σ H _ I h) fun u s1 hh => ?_) ht
  obtain ⟨x, H1, I1, rx, a, C, dx, fs, ps, sp, ex, ea, l, c, ⟨f, fd, F, hm, hb⟩, q⟩ := hh
  subst ex
  have eu : u = Value.ref a := rx
  subst eu
  refine getmeth_ok I1 ea c hm l ?_
  refine PySem.W.callWith_K (first := [.ref a]) (h₀ := X.base) I.ok.mod.kin hm.kp (thn (ha.run pos pins s1 σ H1 _ I1 q) fun us s2 hh => ?_) hst hpl
  obtain ⟨vs, H2, I2, r, q2⟩ := hh
  exact ⟨I2.kIn, run_fn (us := .ref a :: us) (vs := .ref a :: vs) F hr hb .nil hx I2 (.cons rfl r) (by rw [List.append_nil]; exact q2)⟩
theorem pe_methP0 {pl : Sem Bool} (he : PE X o ta) (hr : Room k X.A) (hx : Passes CX X E)
    (ht : eval (.Call (.Attribute o m apos) [] [] pos) X.env = (do
      let v ← eval o X.env
      standAt apos.atName
      let (g, fst) ← holding [v] (getMethod v m pl)
      callWith pos g fst (backTo pos (starEach [] X.env)) (backToKw pos (keywordEach [] X.env))) := by rfl) :
    PE X (.Call (.Attribute o m apos) [] [] pos) (tMethP X CX k m E ta tNil) := by
  refine ⟨fun pins s σ H Q I h => ?_⟩
  refine PySem.W.methodCall_KW (pl := pl) (thn (he.run pins s σ H _ I h) fun u s1 hh => ?_) ht
  obtain ⟨x, H1, I1, rx, a, C, dx, fs, ps, sp, ex, ea, l, c, ⟨f, fd, F, hm, hb⟩, q⟩ := hh
  subst ex
  have eu : u = Value.ref a := rx
  subst eu
  refine getmeth_ok I1 ea c hm l ?_
  exact PySem.W.callWith_K0 (first := [.ref a]) I1.kIn hm.kp (run_fn (us := [.ref a]) (vs := [.ref a]) F hr hb .nil hx I1 (.cons rfl .nil) q)
/-- what C.m, C a class of the text, stands for -/
structure ClsFn (K : Frag) (C : Addr) (m : Str) (v : Value) : Prop where
  rd : PySem.W.readsIn K C (.type "type") = true
  ga : PySem.W.specialIn K (.ref C) "__getattribute__" = some (some (.builtin "type.__getattribute__"))
  at_ : PySem.W.findCls K (.ref C) (.type "type") m = some (.val v)
  hd : PySem.W.handedIn v = true
/-- C.m(..), C a class of the text: its function m -/
theorem pe_clsCall {C f : Addr} {fd : FuncData} {p2 : Pos} {pl : Sem Bool} (F : FnOk X.prog X.w X.K X.mg X.base CX k f fd ps sp) (r : ClsFn X.K C m (.ref f)) (hm : X.mg x = some (.ref C)) (hk : PySem.W.keepIn X.K (.ref f) = true) (hb : Binds X.K fd ps [])
    (hr : Room k X.A) (hx : Passes CX X E) (ha : PA X (e :: es) t) (hg : Gl X x := by rfl) (hdb : (x == ("__debug__" : Str)) = false := by decide)
    (hst : starEach (e :: es) X.env = (false, eval e X.env) :: starEach es X.env := by rfl) (hpl : (backTo pos (starEach es X.env)).any (·.1) = false := by rfl)
    (ht : eval (.Call (.Attribute (.Name x p2) m apos) (e :: es) [] pos) X.env = (do
      let v ← eval (.Name x p2) X.env
      standAt apos.atName
      let (g, fst) ← holding [v] (getMethod v m pl)
      callWith pos g fst (backTo pos (starEach (e :: es) X.env)) (backToKw pos (keywordEach [] X.env))) := by rfl) :
    PE X (.Call (.Attribute (.Name x p2) m apos) (e :: es) [] pos) (tCall sp [] E t) := by
  refine ⟨fun pins s σ H Q I h => ?_⟩
  refine PySem.W.methodCall_KW (pl := pl) (ld_glob I hg hm ?_ hdb) ht
  refine PySem.W.method_cls I.kIn r.ga (PySem.W.cls_value I.kIn r.rd r.at_ r.hd ?_)
  refine PySem.W.callWith_K (first := []) (h₀ := X.base) I.ok.mod.kin hk (thn (ha.run pos pins _ σ H _ (I.tok _) h) fun us s2 hh => ?_) hst hpl
  obtain ⟨vs, H2, I2, r2, q2⟩ := hh
  exact ⟨I2.kIn, run_fn (us := us) (vs := vs) F hr hb .nil hx I2 r2 q2⟩
end
end PV
set_option Elab.async false
set_option linter.all false
set_option maxRecDepth 100000
set_option maxHeartbeats 4000000
/-! What the text's top leaves, by name. -/
namespace PV
open PySem PySem.Spec PyProof.Rows L2
/-- C(..): the class's own __init__ -/
def MkT (K : Frag) (C : Addr) (q : Str) (st : Stmt) : Prop := ∃ f fd, Mk K C f ∧ Fun K "__init__" q st f fd
/-- C.m, as a function -/
def ClsT (K : Frag) (C : Addr) (m q : Str) (st : Stmt) : Prop := ∃ f fd, ClsFn K C m (.ref f) ∧ PySem.W.keepIn K (.ref f) = true ∧ Fun K m q st f fd
/-- an own error's __init__ -/
def XInT (K : Frag) (C : Addr) : Prop := ∃ f fd, PySem.W.findIn K (.ref C) "__init__" = some (some (.ref f)) ∧ PySem.W.typeIn K (.ref f) = some (.type "function") ∧ Fun K "__init__" "Clash.__init__" s_Clash_init f fd
/-- its fields are read as usual -/
structure XRead (K : Frag) (C : Addr) : Prop where
  ga : PySem.W.findIn K (.ref C) "__getattribute__" = some (some (.builtin "BaseException.__getattribute__"))
  gg : PySem.W.findIn K (.ref C) "__getattr__" = some none
  hd : PySem.W.hasDictIn K C = true
structure Txt (K : Frag) (mg : Str → Option Value) : Prop where
  d_text_codes : DefT K mg "text_codes" "text_codes" s_text_codes
  d_codes_of : DefT K mg "codes_of" "codes_of" s_codes_of
  d_seal : DefT K mg "seal" "seal" s_seal
  d_is_number : DefT K mg "is_number" "is_number" s_is_number
  d_is_text : DefT K mg "is_text" "is_text" s_is_text
  d_is_thing : DefT K mg "is_thing" "is_thing" s_is_thing
  d_kind_of : DefT K mg "kind_of" "kind_of" s_kind_of
  d_side_of : DefT K mg "side_of" "side_of" s_side_of
  d_ahead : DefT K mg "ahead" "ahead" s_ahead
  d_answer_with_paper : DefT K mg "answer_with_paper" "answer_with_paper" s_answer_with_paper
  d_checked : DefT K mg "checked" "checked" s_checked
  d_is_whole : DefT K mg "is_whole" "is_whole" s_is_whole
  d_is_node : DefT K mg "is_node" "is_node" s_is_node
  d_node_at : DefT K mg "node_at" "node_at" s_node_at
  d_node_beneath : DefT K mg "node_beneath" "node_beneath" s_node_beneath
  d_size : DefT K mg "size" "size" s_size
  d_size_beneath : DefT K mg "size_beneath" "size_beneath" s_size_beneath
  d_rank : DefT K mg "rank" "rank" s_rank
  d_above : DefT K mg "above" "above" s_above
  d_found : DefT K mg "found" "found" s_found
  d_goes_left : DefT K mg "goes_left" "goes_left" s_goes_left
  d_goes_right : DefT K mg "goes_right" "goes_right" s_goes_right
  d_need_counted : DefT K mg "need_counted" "need_counted" s_need_counted
  d_is_empty : DefT K mg "is_empty" "is_empty" s_is_empty
  d_stretch : DefT K mg "stretch" "stretch" s_stretch
  d_ahead_of : DefT K mg "ahead_of" "ahead_of" s_ahead_of
  d_counted : DefT K mg "counted" "counted" s_counted
  d_nth : DefT K mg "nth" "nth" s_nth
  d_part : DefT K mg "part" "part" s_part
  d_joined : DefT K mg "joined" "joined" s_joined
  d_rebuilt : DefT K mg "rebuilt" "rebuilt" s_rebuilt
  d_put : DefT K mg "put" "put" s_put
  d_cut : DefT K mg "cut" "cut" s_cut
  d_shown : DefT K mg "shown" "shown" s_shown
  d_law_cell_at : DefT K mg "_law_cell_at" "_law_cell_at" s_law_cell_at
  d_law_turned : DefT K mg "_law_turned" "_law_turned" s_law_turned
  d_law_key : DefT K mg "_law_key" "_law_key" s_law_key
  d_law_worth : DefT K mg "_law_worth" "_law_worth" s_law_worth
  d_law_rising : DefT K mg "_law_rising" "_law_rising" s_law_rising
  d_law_before : DefT K mg "_law_before" "_law_before" s_law_before
  d_law_grown : DefT K mg "_law_grown" "_law_grown" s_law_grown
  d_law_within : DefT K mg "_law_within" "_law_within" s_law_within
  d_law_ask : DefT K mg "_law_ask" "_law_ask" s_law_ask
  d_law_plain : DefT K mg "_law_plain" "_law_plain" s_law_plain
  d_law_paper_right : DefT K mg "_law_paper_right" "_law_paper_right" s_law_paper_right
  d_law_lacks : DefT K mg "_law_lacks" "_law_lacks" s_law_lacks
  d_law_holds : DefT K mg "_law_holds" "_law_holds" s_law_holds
  d_law : DefT K mg "law" "law" s_law
  d_is_within_things : DefT K mg "is_within_things" "is_within" s_is_within_things
  d_is_within : DefT K mg "is_within" "is_within" s_is_within_trees
  d_is_within_trees : DefT K mg "is_within_trees" "is_within" s_is_within_trees
  i_MOST_SEAL : IntT mg "MOST_SEAL" 2305843009213693951
  i_BASE : IntT mg "BASE" 1234567890123456789
  i_BEGIN : IntT mg "BEGIN" 7
  i_HALF : IntT mg "HALF" 1000000000000000
  i_LEAST : IntT mg "LEAST" 1000000000000000000000000000000
  i_MOST_NUMBER : IntT mg "MOST_NUMBER" 1000000000000000000000000000000
  i_MOST_SIGNS : IntT mg "MOST_SIGNS" 60
  i_MOST_THINGS : IntT mg "MOST_THINGS" 40
  i_DEEPEST : IntT mg "DEEPEST" 5
  i_MOST_NODES : IntT mg "MOST_NODES" 300
  i_UNBOUND : IntT mg "UNBOUND" 301
  b_len : mg "len" = none
  b_isinstance : mg "isinstance" = none
  b_ord : mg "ord" = none
  b_range : mg "range" = none
  b_zip : mg "zip" = none
  b_int : mg "int" = none
  b_reversed : mg "reversed" = none
  b_sorted : mg "sorted" = none
  b_set : mg "set" = none
  b_list : mg "list" = none
  b_max : mg "max" = none
  b_str : mg "str" = none
  b_tuple : mg "tuple" = none
  b_bool : mg "bool" = none
  g_Keeper : mg "Keeper" = some (.ref (He.ga K "Keeper"))
  c_Keeper : Cls K (He.ga K "Keeper")
  n_Keeper_by_seal : NoAttr K (He.ga K "Keeper") "by_seal"
  k_Keeper : MkT K (He.ga K "Keeper") "Vault.__init__" s_Vault_init
  m_Keeper_lay : MetT K (He.ga K "Keeper") "lay" "Vault.lay" s_Vault_lay
  m_Keeper_thing : MetT K (He.ga K "Keeper") "thing" "Vault.thing" s_Vault_thing
  m_Keeper_has : MetT K (He.ga K "Keeper") "has" "Vault.has" s_Vault_has
  m_Keeper_things : MetT K (He.ga K "Keeper") "things" "Keeper.things" s_Keeper_things
  g_Reader : mg "Reader" = some (.ref (He.ga K "Reader"))
  c_Reader : Cls K (He.ga K "Reader")
  n_Reader_by_seal : NoAttr K (He.ga K "Reader") "by_seal"
  n_Reader_beneath : NoAttr K (He.ga K "Reader") "beneath"
  n_Reader_noted : NoAttr K (He.ga K "Reader") "noted"
  k_Reader : MkT K (He.ga K "Reader") "Reader.__init__" s_Reader_init
  m_Reader_lay : MetT K (He.ga K "Reader") "lay" "Reader.lay" s_Reader_lay
  m_Reader_thing : MetT K (He.ga K "Reader") "thing" "Reader.thing" s_Reader_thing
  m_Reader_has : MetT K (He.ga K "Reader") "has" "Vault.has" s_Vault_has
  m_Reader_paper : MetT K (He.ga K "Reader") "paper" "Reader.paper" s_Reader_paper
  g_Witness : mg "Witness" = some (.ref (He.ga K "Witness"))
  c_Witness : Cls K (He.ga K "Witness")
  n_Witness_by_seal : NoAttr K (He.ga K "Witness") "by_seal"
  k_Witness : MkT K (He.ga K "Witness") "Witness.__init__" s_Witness_init
  m_Witness_lay : MetT K (He.ga K "Witness") "lay" "Vault.lay" s_Vault_lay
  m_Witness_thing : MetT K (He.ga K "Witness") "thing" "Vault.thing" s_Vault_thing
  m_Witness_has : MetT K (He.ga K "Witness") "has" "Vault.has" s_Vault_has
  g_Find : mg "Find" = some (.ref (He.ga K "Find"))
  c_Find : Cls K (He.ga K "Find")
  n_Find_key : NoAttr K (He.ga K "Find") "key"
  k_Find : MkT K (He.ga K "Find") "Find.__init__" s_Find_init
  m_Find_answer : MetT K (He.ga K "Find") "answer" "Find.answer" s_Find_answer
  g_Stretch : mg "Stretch" = some (.ref (He.ga K "Stretch"))
  c_Stretch : Cls K (He.ga K "Stretch")
  n_Stretch_low : NoAttr K (He.ga K "Stretch") "low"
  n_Stretch_high : NoAttr K (He.ga K "Stretch") "high"
  k_Stretch : MkT K (He.ga K "Stretch") "Stretch.__init__" s_Stretch_init
  m_Stretch_answer : MetT K (He.ga K "Stretch") "answer" "Stretch.answer" s_Stretch_answer
  g_Count : mg "Count" = some (.ref (He.ga K "Count"))
  c_Count : Cls K (He.ga K "Count")
  n_Count_low : NoAttr K (He.ga K "Count") "low"
  n_Count_high : NoAttr K (He.ga K "Count") "high"
  k_Count : MkT K (He.ga K "Count") "Count.__init__" s_Count_init
  m_Count_answer : MetT K (He.ga K "Count") "answer" "Count.answer" s_Count_answer
  g_Nth : mg "Nth" = some (.ref (He.ga K "Nth"))
  c_Nth : Cls K (He.ga K "Nth")
  n_Nth_number : NoAttr K (He.ga K "Nth") "number"
  k_Nth : MkT K (He.ga K "Nth") "Nth.__init__" s_Nth_init
  m_Nth_answer : MetT K (He.ga K "Nth") "answer" "Nth.answer" s_Nth_answer
  g_Put : mg "Put" = some (.ref (He.ga K "Put"))
  c_Put : Cls K (He.ga K "Put")
  n_Put_key : NoAttr K (He.ga K "Put") "key"
  n_Put_worth : NoAttr K (He.ga K "Put") "worth"
  k_Put : MkT K (He.ga K "Put") "Put.__init__" s_Put_init
  m_Put_answer : MetT K (He.ga K "Put") "answer" "Put.answer" s_Put_answer
  g_Cut : mg "Cut" = some (.ref (He.ga K "Cut"))
  c_Cut : Cls K (He.ga K "Cut")
  n_Cut_key : NoAttr K (He.ga K "Cut") "key"
  k_Cut : MkT K (He.ga K "Cut") "Cut.__init__" s_Cut_init
  m_Cut_answer : MetT K (He.ga K "Cut") "answer" "Cut.answer" s_Cut_answer
  g_Also : mg "Also" = some (.ref (He.ga K "Also"))
  c_Also : Cls K (He.ga K "Also")
  n_Also_asks : NoAttr K (He.ga K "Also") "asks"
  k_Also : MkT K (He.ga K "Also") "Also.__init__" s_Also_init
  m_Also_answer : MetT K (He.ga K "Also") "answer" "Also.answer" s_Also_answer
  g_Vault : mg "Vault" = some (.ref (He.ga K "Vault"))
  f_Vault_init : ClsT K (He.ga K "Vault") "__init__" "Vault.__init__" s_Vault_init
  f_Vault_lay : ClsT K (He.ga K "Vault") "lay" "Vault.lay" s_Vault_lay
  f_Vault_thing : ClsT K (He.ga K "Vault") "thing" "Vault.thing" s_Vault_thing
  g_VaultError : mg "VaultError" = some (.ref (He.ga K "VaultError"))
  f_VaultError : ClsFn K (He.ga K "VaultError") "__init__" (.builtin "ValueError.__init__")
  g_NoPaper : mg "NoPaper" = some (.ref (He.ga K "NoPaper"))
  g_BadThing : mg "BadThing" = some (.ref (He.ga K "BadThing"))
  g_Clash : mg "Clash" = some (.ref (He.ga K "Clash"))
  x_NoPaper : PySem.W.excIn K (He.ga K "NoPaper") [.type "ValueError", .type "Exception", .type "BaseException", .type "object"] "ValueError.__new__" = true
  kp_NoPaper : PySem.W.keepIn K (.ref (He.ga K "NoPaper")) = true
  sb_NoPaper : PySem.W.subIn K (.ref (He.ga K "NoPaper")) (.type "BaseException") = some true
  ty_NoPaper : PySem.W.typeIn K (.ref (He.ga K "NoPaper")) = some (.type "type")
  x_Clash : OexC K (He.ga K "Clash")
  n_Clash_one : PySem.W.findIn K (.ref (He.ga K "Clash")) "one" = some none
  n_Clash_other : PySem.W.findIn K (.ref (He.ga K "Clash")) "other" = some none
  k_Clash : XInT K (He.ga K "Clash")
  r_Clash : XRead K (He.ga K "Clash")
  e_NoPaper_NoPaper : PySem.W.exmOne K (.ref (He.ga K "NoPaper")) (.ref (He.ga K "NoPaper")) = some true
  e_Clash_NoPaper : PySem.W.exmOne K (.ref (He.ga K "Clash")) (.ref (He.ga K "NoPaper")) = some false
  e_Clash_Clash : PySem.W.exmOne K (.ref (He.ga K "Clash")) (.ref (He.ga K "Clash")) = some true
  e_NoPaper_Clash : PySem.W.exmOne K (.ref (He.ga K "NoPaper")) (.ref (He.ga K "Clash")) = some false
end PV
set_option Elab.async false
set_option linter.all false
set_option maxRecDepth 100000
set_option maxHeartbeats 0
/-! The head: what the top leaves. -/
namespace PV
open PySem PySem.Spec PyProof.Rows L2
/-! ### facts of our own -/
def clsfB (K : Frag) (C : Addr) (m : Str) (v : Value) : Bool := PySem.W.readsIn K C (.type "type") && (He.eqO (PySem.W.specialIn K (.ref C) "__getattribute__") (some (some (.builtin "type.__getattribute__"))) && ((match PySem.W.findCls K (.ref C) (.type "type") m with
  | some (.val u) => decide (u = v)
  | _ => false) && PySem.W.handedIn v))
theorem clsfB_ok {K : Frag} {C : Addr} {m : Str} {v : Value} (h : clsfB K C m v = true) : ClsFn K C m v := by
  obtain ⟨h1, h⟩ := He.ba h
  obtain ⟨h2, h⟩ := He.ba h
  obtain ⟨h3, h4⟩ := He.ba h
  refine ⟨h1, He.eqO_ok h2, ?_, h4⟩
  split at h3
  · rename_i u e
    rw [e, of_decide_eq_true h3]
  · cases h3
def oexB (K : Frag) (C : Addr) : Bool := (match K.lookup C with
  | some ⟨.type "type", _, .cls cd, sl⟩ => (match cd.mro, sl.toList with
    | .ref C' :: bm, [_, _, _, _, some (.builtin n), _] => C' == C && (n == "ValueError.__new__" && (!cd.hasDel && (cd.hasDict && PySem.HandSPX.refsVE bm)))
    | _, _ => false)
  | _ => false) && (He.eqO (PySem.W.findIn K (.ref C) "__setattr__") (some (some (.builtin "object.__setattr__"))) && (decide (PySem.W.subIn K (.ref C) (.type "BaseException") = some true) && (decide (PySem.W.typeIn K (.ref C) = some (.type "type")) && PySem.W.keepIn K (.ref C))))
theorem oexB_ok {K : Frag} {C : Addr} (h : oexB K C = true) : OexC K C := by
  obtain ⟨q, h⟩ := He.ba h
  obtain ⟨h2, h⟩ := He.ba h
  obtain ⟨h3, h⟩ := He.ba h
  obtain ⟨h4, h5⟩ := He.ba h
  refine ⟨?_, He.eqO_ok h2, of_decide_eq_true h3, of_decide_eq_true h4, h5⟩
  split at q
  · rename_i dd cd sl ho
    split at q
    · rename_i C' bm k0 k1 k2 k3 n k5 hm hs
      simp only [Bool.and_eq_true, beq_iff_eq, Bool.not_eq_true'] at q
      obtain ⟨rfl, rfl, hdel, hdic, hrf⟩ := q
      obtain ⟨nm, bs, mro, ns, qn, hd, sn, sub, ab, col, del⟩ := cd
      dsimp only at hm hdel hdic
      subst hm hdel hdic
      have hsl : sl = #[k0, k1, k2, k3, some (.builtin "ValueError.__new__"), k5] := by
        obtain ⟨l⟩ := sl
        simp only at hs
        rw [hs]
      subst hsl
      exact ⟨nm, qn, ns, bs, bm, sn, sub, ab, col, dd, k0, k1, k2, k3, k5, ho, hrf⟩
    · cases q
  · cases q
theorem of_isFn {K : Frag} {v : Value} (h : PySem.W.isFn K v = true) : PySem.W.typeIn K v = some (.type "function") := eq_of_beq h
theorem fun_of {K : Frag} {x q : Str} {st : Stmt} {f : Addr} {fd : FuncData} (h : FunD K x q (defArgs st) (defBody st) (defScope st) [] [] f fd) : Fun K x q st f fd := by
  obtain ⟨⟨oc, od, dV, kV, doc, pm, an, cdv, ct, osl, e, lk, hcd, hd, _⟩, kp⟩ := h
  rcases hd with ⟨_, rfl⟩ | ⟨z, _⟩
  · exact ⟨⟨oc, od, kV, doc, pm, an, cdv, ct, osl, e, lk, hcd⟩, kp⟩
  · exact absurd rfl z
def xok (K : Frag) : Bool := clsfB K (He.ga K "Vault") "__init__" (.ref (He.ma K (He.ga K "Vault") "__init__")) && (clsfB K (He.ga K "Vault") "lay" (.ref (He.ma K (He.ga K "Vault") "lay")) && (clsfB K (He.ga K "Vault") "thing" (.ref (He.ma K (He.ga K "Vault") "thing")) &&
  (clsfB K (He.ga K "VaultError") "__init__" (.builtin "ValueError.__init__") && (oexB K (He.ga K "Clash") && xfB K (He.ga K "Clash")))))
structure XOk (K : Frag) : Prop where
  v0 : ClsFn K (He.ga K "Vault") "__init__" (.ref (He.ma K (He.ga K "Vault") "__init__"))
  v1 : ClsFn K (He.ga K "Vault") "lay" (.ref (He.ma K (He.ga K "Vault") "lay"))
  v2 : ClsFn K (He.ga K "Vault") "thing" (.ref (He.ma K (He.ga K "Vault") "thing"))
  ve : ClsFn K (He.ga K "VaultError") "__init__" (.builtin "ValueError.__init__")
  xc : OexC K (He.ga K "Clash")
  rc : XRead K (He.ga K "Clash")
theorem xok_ok {K : Frag} (h : xok K = true) : XOk K := by
  obtain ⟨h1, h⟩ := He.ba h
  obtain ⟨h2, h⟩ := He.ba h
  obtain ⟨h3, h⟩ := He.ba h
  obtain ⟨h4, h⟩ := He.ba h
  obtain ⟨h5, h6⟩ := He.ba h
  have z := xfB_ok h6
  exact ⟨clsfB_ok h1, clsfB_ok h2, clsfB_ok h3, clsfB_ok h4, oexB_ok h5, ⟨z.ga, z.gg, z.hdC⟩⟩
/-! ### the list of facts, the list of defs -/
def fa0 : List He.Fa := [.glo "text_codes", .glo "codes_of", .glo "seal", .glo "is_number", .glo "is_text", .glo "is_thing", .glo "kind_of", .glo "side_of", .glo "ahead", .glo "answer_with_paper", .glo "checked", .glo "is_whole", .glo "is_node", .glo "node_at", .glo "node_beneath", .glo "size", .glo "size_beneath", .glo "rank", .glo "above", .glo "found", .glo "goes_left", .glo "goes_right", .glo "need_counted", .glo "is_empty", .glo "stretch", .glo "ahead_of", .glo "counted", .glo "nth", .glo "part", .glo "joined", .glo "rebuilt", .glo "put", .glo "cut", .glo "shown", .glo "_law_cell_at", .glo "_law_turned", .glo "_law_key", .glo "_law_worth", .glo "_law_rising", .glo "_law_before"]
def fa1 : List He.Fa := [.glo "_law_grown", .glo "_law_within", .glo "_law_ask", .glo "_law_plain", .glo "_law_paper_right", .glo "_law_lacks", .glo "_law_holds", .glo "law", .glo "is_within_things", .glo "is_within", .glo "is_within_trees", .int "MOST_SEAL" 2305843009213693951, .int "BASE" 1234567890123456789, .int "BEGIN" 7, .int "HALF" 1000000000000000, .int "LEAST" 1000000000000000000000000000000, .int "MOST_NUMBER" 1000000000000000000000000000000, .int "MOST_SIGNS" 60, .int "MOST_THINGS" 40, .int "DEEPEST" 5, .int "MOST_NODES" 300, .int "UNBOUND" 301, .free "len", .free "isinstance", .free "ord", .free "range", .free "zip", .free "int", .free "reversed", .free "sorted", .free "set", .free "list", .free "max", .free "str", .free "tuple", .free "bool", .glo "Keeper", .cls "Keeper", .noat "Keeper" "by_seal", .mkr "Keeper"]
def fa2 : List He.Fa := [.meth "Keeper" "lay", .meth "Keeper" "thing", .meth "Keeper" "has", .meth "Keeper" "things", .glo "Reader", .cls "Reader", .noat "Reader" "by_seal", .noat "Reader" "beneath", .noat "Reader" "noted", .mkr "Reader", .meth "Reader" "lay", .meth "Reader" "thing", .meth "Reader" "has", .meth "Reader" "paper", .glo "Witness", .cls "Witness", .noat "Witness" "by_seal", .mkr "Witness", .meth "Witness" "lay", .meth "Witness" "thing", .meth "Witness" "has", .glo "Find", .cls "Find", .noat "Find" "key", .mkr "Find", .meth "Find" "answer", .glo "Stretch", .cls "Stretch", .noat "Stretch" "low", .noat "Stretch" "high", .mkr "Stretch", .meth "Stretch" "answer", .glo "Count", .cls "Count", .noat "Count" "low", .noat "Count" "high", .mkr "Count", .meth "Count" "answer", .glo "Nth", .cls "Nth"]
def fa3 : List He.Fa := [.noat "Nth" "number", .mkr "Nth", .meth "Nth" "answer", .glo "Put", .cls "Put", .noat "Put" "key", .noat "Put" "worth", .mkr "Put", .meth "Put" "answer", .glo "Cut", .cls "Cut", .noat "Cut" "key", .mkr "Cut", .meth "Cut" "answer", .glo "Also", .cls "Also", .noat "Also" "asks", .mkr "Also", .meth "Also" "answer", .glo "Vault", .glo "VaultError", .glo "NoPaper", .glo "BadThing", .glo "Clash", .exc "NoPaper", .noat "Clash" "one", .noat "Clash" "other", .meth "Clash" "__init__", .exm "NoPaper" "NoPaper" true, .exm "Clash" "NoPaper" false, .exm "Clash" "Clash" true, .exm "NoPaper" "Clash" false]
def fa_ : List He.Fa := fa0 ++ (fa1 ++ (fa2 ++ (fa3)))
def dd0 : He.DefD := ⟨("text_codes", none), "text_codes", "text_codes", defArgs s_text_codes, defBody s_text_codes, defScope s_text_codes, [], []⟩
def dd1 : He.DefD := ⟨("codes_of", none), "codes_of", "codes_of", defArgs s_codes_of, defBody s_codes_of, defScope s_codes_of, [], []⟩
def dd2 : He.DefD := ⟨("seal", none), "seal", "seal", defArgs s_seal, defBody s_seal, defScope s_seal, [], []⟩
def dd3 : He.DefD := ⟨("is_number", none), "is_number", "is_number", defArgs s_is_number, defBody s_is_number, defScope s_is_number, [], []⟩
def dd4 : He.DefD := ⟨("is_text", none), "is_text", "is_text", defArgs s_is_text, defBody s_is_text, defScope s_is_text, [], []⟩
def dd5 : He.DefD := ⟨("is_thing", none), "is_thing", "is_thing", defArgs s_is_thing, defBody s_is_thing, defScope s_is_thing, [], []⟩
def dd6 : He.DefD := ⟨("kind_of", none), "kind_of", "kind_of", defArgs s_kind_of, defBody s_kind_of, defScope s_kind_of, [], []⟩
def dd7 : He.DefD := ⟨("side_of", none), "side_of", "side_of", defArgs s_side_of, defBody s_side_of, defScope s_side_of, [], []⟩
def dd8 : He.DefD := ⟨("ahead", none), "ahead", "ahead", defArgs s_ahead, defBody s_ahead, defScope s_ahead, [], []⟩
def dd9 : He.DefD := ⟨("answer_with_paper", none), "answer_with_paper", "answer_with_paper", defArgs s_answer_with_paper, defBody s_answer_with_paper, defScope s_answer_with_paper, [], []⟩
def dd10 : He.DefD := ⟨("checked", none), "checked", "checked", defArgs s_checked, defBody s_checked, defScope s_checked, [], []⟩
def dd11 : He.DefD := ⟨("is_whole", none), "is_whole", "is_whole", defArgs s_is_whole, defBody s_is_whole, defScope s_is_whole, [], []⟩
def dd12 : He.DefD := ⟨("is_node", none), "is_node", "is_node", defArgs s_is_node, defBody s_is_node, defScope s_is_node, [], []⟩
def dd13 : He.DefD := ⟨("node_at", none), "node_at", "node_at", defArgs s_node_at, defBody s_node_at, defScope s_node_at, [], []⟩
def dd14 : He.DefD := ⟨("node_beneath", none), "node_beneath", "node_beneath", defArgs s_node_beneath, defBody s_node_beneath, defScope s_node_beneath, [], []⟩
def dd15 : He.DefD := ⟨("size", none), "size", "size", defArgs s_size, defBody s_size, defScope s_size, [], []⟩
def dd16 : He.DefD := ⟨("size_beneath", none), "size_beneath", "size_beneath", defArgs s_size_beneath, defBody s_size_beneath, defScope s_size_beneath, [], []⟩
def dd17 : He.DefD := ⟨("rank", none), "rank", "rank", defArgs s_rank, defBody s_rank, defScope s_rank, [], []⟩
def dd18 : He.DefD := ⟨("above", none), "above", "above", defArgs s_above, defBody s_above, defScope s_above, [], []⟩
def dd19 : He.DefD := ⟨("found", none), "found", "found", defArgs s_found, defBody s_found, defScope s_found, [], []⟩
def dd20 : He.DefD := ⟨("goes_left", none), "goes_left", "goes_left", defArgs s_goes_left, defBody s_goes_left, defScope s_goes_left, [], []⟩
def dd21 : He.DefD := ⟨("goes_right", none), "goes_right", "goes_right", defArgs s_goes_right, defBody s_goes_right, defScope s_goes_right, [], []⟩
def dd22 : He.DefD := ⟨("need_counted", none), "need_counted", "need_counted", defArgs s_need_counted, defBody s_need_counted, defScope s_need_counted, [], []⟩
def dd23 : He.DefD := ⟨("is_empty", none), "is_empty", "is_empty", defArgs s_is_empty, defBody s_is_empty, defScope s_is_empty, [], []⟩
def dd24 : He.DefD := ⟨("stretch", none), "stretch", "stretch", defArgs s_stretch, defBody s_stretch, defScope s_stretch, [], []⟩
def dd25 : He.DefD := ⟨("ahead_of", none), "ahead_of", "ahead_of", defArgs s_ahead_of, defBody s_ahead_of, defScope s_ahead_of, [], []⟩
def dd26 : He.DefD := ⟨("counted", none), "counted", "counted", defArgs s_counted, defBody s_counted, defScope s_counted, [], []⟩
def dd27 : He.DefD := ⟨("nth", none), "nth", "nth", defArgs s_nth, defBody s_nth, defScope s_nth, [], []⟩
def dd28 : He.DefD := ⟨("part", none), "part", "part", defArgs s_part, defBody s_part, defScope s_part, [], []⟩
def dd29 : He.DefD := ⟨("joined", none), "joined", "joined", defArgs s_joined, defBody s_joined, defScope s_joined, [], []⟩
def dd30 : He.DefD := ⟨("rebuilt", none), "rebuilt", "rebuilt", defArgs s_rebuilt, defBody s_rebuilt, defScope s_rebuilt, [], []⟩
def dd31 : He.DefD := ⟨("put", none), "put", "put", defArgs s_put, defBody s_put, defScope s_put, [], []⟩
def dd32 : He.DefD := ⟨("cut", none), "cut", "cut", defArgs s_cut, defBody s_cut, defScope s_cut, [], []⟩
def dd33 : He.DefD := ⟨("shown", none), "shown", "shown", defArgs s_shown, defBody s_shown, defScope s_shown, [], []⟩
def dd34 : He.DefD := ⟨("_law_cell_at", none), "_law_cell_at", "_law_cell_at", defArgs s_law_cell_at, defBody s_law_cell_at, defScope s_law_cell_at, [], []⟩
def dd35 : He.DefD := ⟨("_law_turned", none), "_law_turned", "_law_turned", defArgs s_law_turned, defBody s_law_turned, defScope s_law_turned, [], []⟩
def dd36 : He.DefD := ⟨("_law_key", none), "_law_key", "_law_key", defArgs s_law_key, defBody s_law_key, defScope s_law_key, [], []⟩
def dd37 : He.DefD := ⟨("_law_worth", none), "_law_worth", "_law_worth", defArgs s_law_worth, defBody s_law_worth, defScope s_law_worth, [], []⟩
def dd38 : He.DefD := ⟨("_law_rising", none), "_law_rising", "_law_rising", defArgs s_law_rising, defBody s_law_rising, defScope s_law_rising, [], []⟩
def dd39 : He.DefD := ⟨("_law_before", none), "_law_before", "_law_before", defArgs s_law_before, defBody s_law_before, defScope s_law_before, [], []⟩
def dd40 : He.DefD := ⟨("_law_grown", none), "_law_grown", "_law_grown", defArgs s_law_grown, defBody s_law_grown, defScope s_law_grown, [], []⟩
def dd41 : He.DefD := ⟨("_law_within", none), "_law_within", "_law_within", defArgs s_law_within, defBody s_law_within, defScope s_law_within, [], []⟩
def dd42 : He.DefD := ⟨("_law_ask", none), "_law_ask", "_law_ask", defArgs s_law_ask, defBody s_law_ask, defScope s_law_ask, [], []⟩
def dd43 : He.DefD := ⟨("_law_plain", none), "_law_plain", "_law_plain", defArgs s_law_plain, defBody s_law_plain, defScope s_law_plain, [], []⟩
def dd44 : He.DefD := ⟨("_law_paper_right", none), "_law_paper_right", "_law_paper_right", defArgs s_law_paper_right, defBody s_law_paper_right, defScope s_law_paper_right, [], []⟩
def dd45 : He.DefD := ⟨("_law_lacks", none), "_law_lacks", "_law_lacks", defArgs s_law_lacks, defBody s_law_lacks, defScope s_law_lacks, [], []⟩
def dd46 : He.DefD := ⟨("_law_holds", none), "_law_holds", "_law_holds", defArgs s_law_holds, defBody s_law_holds, defScope s_law_holds, [], []⟩
def dd47 : He.DefD := ⟨("law", none), "law", "law", defArgs s_law, defBody s_law, defScope s_law, [], []⟩
def dd48 : He.DefD := ⟨("is_within_things", none), "is_within", "is_within", defArgs s_is_within_things, defBody s_is_within_things, defScope s_is_within_things, [], []⟩
def dd49 : He.DefD := ⟨("is_within", none), "is_within", "is_within", defArgs s_is_within_trees, defBody s_is_within_trees, defScope s_is_within_trees, [], []⟩
def dd50 : He.DefD := ⟨("is_within_trees", none), "is_within", "is_within", defArgs s_is_within_trees, defBody s_is_within_trees, defScope s_is_within_trees, [], []⟩
def dd51 : He.DefD := ⟨("Keeper", some "__init__"), "__init__", "Vault.__init__", defArgs s_Vault_init, defBody s_Vault_init, defScope s_Vault_init, [], []⟩
def dd52 : He.DefD := ⟨("Keeper", some "lay"), "lay", "Vault.lay", defArgs s_Vault_lay, defBody s_Vault_lay, defScope s_Vault_lay, [], []⟩
def dd53 : He.DefD := ⟨("Keeper", some "thing"), "thing", "Vault.thing", defArgs s_Vault_thing, defBody s_Vault_thing, defScope s_Vault_thing, [], []⟩
def dd54 : He.DefD := ⟨("Keeper", some "has"), "has", "Vault.has", defArgs s_Vault_has, defBody s_Vault_has, defScope s_Vault_has, [], []⟩
def dd55 : He.DefD := ⟨("Keeper", some "things"), "things", "Keeper.things", defArgs s_Keeper_things, defBody s_Keeper_things, defScope s_Keeper_things, [], []⟩
def dd56 : He.DefD := ⟨("Reader", some "__init__"), "__init__", "Reader.__init__", defArgs s_Reader_init, defBody s_Reader_init, defScope s_Reader_init, [], []⟩
def dd57 : He.DefD := ⟨("Reader", some "lay"), "lay", "Reader.lay", defArgs s_Reader_lay, defBody s_Reader_lay, defScope s_Reader_lay, [], []⟩
def dd58 : He.DefD := ⟨("Reader", some "thing"), "thing", "Reader.thing", defArgs s_Reader_thing, defBody s_Reader_thing, defScope s_Reader_thing, [], []⟩
def dd59 : He.DefD := ⟨("Reader", some "has"), "has", "Vault.has", defArgs s_Vault_has, defBody s_Vault_has, defScope s_Vault_has, [], []⟩
def dd60 : He.DefD := ⟨("Reader", some "paper"), "paper", "Reader.paper", defArgs s_Reader_paper, defBody s_Reader_paper, defScope s_Reader_paper, [], []⟩
def dd61 : He.DefD := ⟨("Witness", some "__init__"), "__init__", "Witness.__init__", defArgs s_Witness_init, defBody s_Witness_init, defScope s_Witness_init, [], []⟩
def dd62 : He.DefD := ⟨("Witness", some "lay"), "lay", "Vault.lay", defArgs s_Vault_lay, defBody s_Vault_lay, defScope s_Vault_lay, [], []⟩
def dd63 : He.DefD := ⟨("Witness", some "thing"), "thing", "Vault.thing", defArgs s_Vault_thing, defBody s_Vault_thing, defScope s_Vault_thing, [], []⟩
def dd64 : He.DefD := ⟨("Witness", some "has"), "has", "Vault.has", defArgs s_Vault_has, defBody s_Vault_has, defScope s_Vault_has, [], []⟩
def dd65 : He.DefD := ⟨("Find", some "__init__"), "__init__", "Find.__init__", defArgs s_Find_init, defBody s_Find_init, defScope s_Find_init, [], []⟩
def dd66 : He.DefD := ⟨("Find", some "answer"), "answer", "Find.answer", defArgs s_Find_answer, defBody s_Find_answer, defScope s_Find_answer, [], []⟩
def dd67 : He.DefD := ⟨("Stretch", some "__init__"), "__init__", "Stretch.__init__", defArgs s_Stretch_init, defBody s_Stretch_init, defScope s_Stretch_init, [], []⟩
def dd68 : He.DefD := ⟨("Stretch", some "answer"), "answer", "Stretch.answer", defArgs s_Stretch_answer, defBody s_Stretch_answer, defScope s_Stretch_answer, [], []⟩
def dd69 : He.DefD := ⟨("Count", some "__init__"), "__init__", "Count.__init__", defArgs s_Count_init, defBody s_Count_init, defScope s_Count_init, [], []⟩
def dd70 : He.DefD := ⟨("Count", some "answer"), "answer", "Count.answer", defArgs s_Count_answer, defBody s_Count_answer, defScope s_Count_answer, [], []⟩
def dd71 : He.DefD := ⟨("Nth", some "__init__"), "__init__", "Nth.__init__", defArgs s_Nth_init, defBody s_Nth_init, defScope s_Nth_init, [], []⟩
def dd72 : He.DefD := ⟨("Nth", some "answer"), "answer", "Nth.answer", defArgs s_Nth_answer, defBody s_Nth_answer, defScope s_Nth_answer, [], []⟩
def dd73 : He.DefD := ⟨("Put", some "__init__"), "__init__", "Put.__init__", defArgs s_Put_init, defBody s_Put_init, defScope s_Put_init, [], []⟩
def dd74 : He.DefD := ⟨("Put", some "answer"), "answer", "Put.answer", defArgs s_Put_answer, defBody s_Put_answer, defScope s_Put_answer, [], []⟩
def dd75 : He.DefD := ⟨("Cut", some "__init__"), "__init__", "Cut.__init__", defArgs s_Cut_init, defBody s_Cut_init, defScope s_Cut_init, [], []⟩
def dd76 : He.DefD := ⟨("Cut", some "answer"), "answer", "Cut.answer", defArgs s_Cut_answer, defBody s_Cut_answer, defScope s_Cut_answer, [], []⟩
def dd77 : He.DefD := ⟨("Also", some "__init__"), "__init__", "Also.__init__", defArgs s_Also_init, defBody s_Also_init, defScope s_Also_init, [], []⟩
def dd78 : He.DefD := ⟨("Also", some "answer"), "answer", "Also.answer", defArgs s_Also_answer, defBody s_Also_answer, defScope s_Also_answer, [], []⟩
def dd79 : He.DefD := ⟨("Vault", some "__init__"), "__init__", "Vault.__init__", defArgs s_Vault_init, defBody s_Vault_init, defScope s_Vault_init, [], []⟩
def dd80 : He.DefD := ⟨("Vault", some "lay"), "lay", "Vault.lay", defArgs s_Vault_lay, defBody s_Vault_lay, defScope s_Vault_lay, [], []⟩
def dd81 : He.DefD := ⟨("Vault", some "thing"), "thing", "Vault.thing", defArgs s_Vault_thing, defBody s_Vault_thing, defScope s_Vault_thing, [], []⟩
def dd82 : He.DefD := ⟨("Clash", some "__init__"), "__init__", "Clash.__init__", defArgs s_Clash_init, defBody s_Clash_init, defScope s_Clash_init, [], []⟩
def fn0 : List He.DefD := [dd0, dd1, dd2, dd3, dd4, dd5, dd6, dd7, dd8, dd9, dd10, dd11, dd12, dd13, dd14, dd15, dd16, dd17, dd18, dd19, dd20, dd21, dd22, dd23, dd24, dd25, dd26, dd27, dd28, dd29, dd30, dd31, dd32, dd33, dd34, dd35, dd36, dd37, dd38, dd39]
def fn1 : List He.DefD := [dd40, dd41, dd42, dd43, dd44, dd45, dd46, dd47, dd48, dd49, dd50, dd51, dd52, dd53, dd54, dd55, dd56, dd57, dd58, dd59, dd60, dd61, dd62, dd63, dd64, dd65, dd66, dd67, dd68, dd69, dd70, dd71, dd72, dd73, dd74, dd75, dd76, dd77, dd78, dd79]
def fn2 : List He.DefD := [dd80, dd81, dd82]
def fn_ : List He.DefD := fn0 ++ (fn1 ++ (fn2))
/-! ### the Hook -/
def cutG (g : Addr → Option Obj) (a : Addr) : List Addr := match g a with
  | some o => He.refsD o
  | none => []
def nsG (g : Addr → Option Obj) (a : Addr) : List Addr := match g a with
  | some ⟨_, _, .dict es _, _⟩ => es.toList.flatMap fun e => He.refV e.val
  | _ => []
def as1 (g : Addr → Option Obj) : List Addr := cutG g mainGlobals
def as2 (g : Addr → Option Obj) : List Addr := (as1 g).flatMap (cutG g)
def as3 (g : Addr → Option Obj) : List Addr := (as2 g).flatMap (nsG g)
def as4 (g : Addr → Option Obj) : List Addr := (as3 g).flatMap (cutG g)
def asX (g : Addr → Option Obj) : List Addr := mainGlobals :: cStatics :: (as1 g ++ (as2 g ++ (as3 g ++ as4 g)))
abbrev AlX : Type := Bool × He.AlD
def obsX (K : Frag) : AlX := (xok K, He.obsD fa_ fn_ K)
def valX : AlX := (true, He.valD fn_)
def obsXG (g : Addr → Option Obj) : AlX := obsX (He.frG g (asX g))
def hookX : PySem.W.Hook where
  α := AlX
  obs := fun s => obsXG s.heap.get?
  val := fun _ => valX
  says := fun _ h => ∃ K : PySem.W.Frag, K.In h ∧ obsX K = valX
  of := fun _ _ e => ⟨_, He.frG_in, e⟩
  keeps := fun _ _ _ ⟨K, hK, c⟩ k => ⟨K, PySem.W.Frag.In.keeps hK k, c⟩
theorem obsXG_eq {g : Addr → Option Obj} {s : Shared} (h : ∀ a, g a = s.heap.get? a) : obsXG g = hookX.obs s := by
  have e : g = s.heap.get? := funext h
  rw [e] <;> rfl
theorem says_of {K : Frag} (h : obsX K = valX) : He.SaysD fa_ fn_ K ∧ xok K = true := ⟨congrArg (fun z : AlX => z.2) h, congrArg (fun z : AlX => z.1) h⟩
theorem txt_ok {K : Frag} {h : Heap} {mg : Str → Option Value} (X : K.In h) (G : h.Ns mainGlobals mg) (c : He.SaysD fa_ fn_ K ∧ xok K = true) : Txt K mg where
  d_text_codes := ⟨_, _, He.glo_ok X G (c.1.fact 0 (f := .glo "text_codes") rfl), (fun_of (st := s_text_codes) (c.1.def_ 0 (d := dd0) rfl).choose_spec)⟩
  d_codes_of := ⟨_, _, He.glo_ok X G (c.1.fact 1 (f := .glo "codes_of") rfl), (fun_of (st := s_codes_of) (c.1.def_ 1 (d := dd1) rfl).choose_spec)⟩
  d_seal := ⟨_, _, He.glo_ok X G (c.1.fact 2 (f := .glo "seal") rfl), (fun_of (st := s_seal) (c.1.def_ 2 (d := dd2) rfl).choose_spec)⟩
  d_is_number := ⟨_, _, He.glo_ok X G (c.1.fact 3 (f := .glo "is_number") rfl), (fun_of (st := s_is_number) (c.1.def_ 3 (d := dd3) rfl).choose_spec)⟩
  d_is_text := ⟨_, _, He.glo_ok X G (c.1.fact 4 (f := .glo "is_text") rfl), (fun_of (st := s_is_text) (c.1.def_ 4 (d := dd4) rfl).choose_spec)⟩
  d_is_thing := ⟨_, _, He.glo_ok X G (c.1.fact 5 (f := .glo "is_thing") rfl), (fun_of (st := s_is_thing) (c.1.def_ 5 (d := dd5) rfl).choose_spec)⟩
  d_kind_of := ⟨_, _, He.glo_ok X G (c.1.fact 6 (f := .glo "kind_of") rfl), (fun_of (st := s_kind_of) (c.1.def_ 6 (d := dd6) rfl).choose_spec)⟩
  d_side_of := ⟨_, _, He.glo_ok X G (c.1.fact 7 (f := .glo "side_of") rfl), (fun_of (st := s_side_of) (c.1.def_ 7 (d := dd7) rfl).choose_spec)⟩
  d_ahead := ⟨_, _, He.glo_ok X G (c.1.fact 8 (f := .glo "ahead") rfl), (fun_of (st := s_ahead) (c.1.def_ 8 (d := dd8) rfl).choose_spec)⟩
  d_answer_with_paper := ⟨_, _, He.glo_ok X G (c.1.fact 9 (f := .glo "answer_with_paper") rfl), (fun_of (st := s_answer_with_paper) (c.1.def_ 9 (d := dd9) rfl).choose_spec)⟩
  d_checked := ⟨_, _, He.glo_ok X G (c.1.fact 10 (f := .glo "checked") rfl), (fun_of (st := s_checked) (c.1.def_ 10 (d := dd10) rfl).choose_spec)⟩
  d_is_whole := ⟨_, _, He.glo_ok X G (c.1.fact 11 (f := .glo "is_whole") rfl), (fun_of (st := s_is_whole) (c.1.def_ 11 (d := dd11) rfl).choose_spec)⟩
  d_is_node := ⟨_, _, He.glo_ok X G (c.1.fact 12 (f := .glo "is_node") rfl), (fun_of (st := s_is_node) (c.1.def_ 12 (d := dd12) rfl).choose_spec)⟩
  d_node_at := ⟨_, _, He.glo_ok X G (c.1.fact 13 (f := .glo "node_at") rfl), (fun_of (st := s_node_at) (c.1.def_ 13 (d := dd13) rfl).choose_spec)⟩
  d_node_beneath := ⟨_, _, He.glo_ok X G (c.1.fact 14 (f := .glo "node_beneath") rfl), (fun_of (st := s_node_beneath) (c.1.def_ 14 (d := dd14) rfl).choose_spec)⟩
  d_size := ⟨_, _, He.glo_ok X G (c.1.fact 15 (f := .glo "size") rfl), (fun_of (st := s_size) (c.1.def_ 15 (d := dd15) rfl).choose_spec)⟩
  d_size_beneath := ⟨_, _, He.glo_ok X G (c.1.fact 16 (f := .glo "size_beneath") rfl), (fun_of (st := s_size_beneath) (c.1.def_ 16 (d := dd16) rfl).choose_spec)⟩
  d_rank := ⟨_, _, He.glo_ok X G (c.1.fact 17 (f := .glo "rank") rfl), (fun_of (st := s_rank) (c.1.def_ 17 (d := dd17) rfl).choose_spec)⟩
  d_above := ⟨_, _, He.glo_ok X G (c.1.fact 18 (f := .glo "above") rfl), (fun_of (st := s_above) (c.1.def_ 18 (d := dd18) rfl).choose_spec)⟩
  d_found := ⟨_, _, He.glo_ok X G (c.1.fact 19 (f := .glo "found") rfl), (fun_of (st := s_found) (c.1.def_ 19 (d := dd19) rfl).choose_spec)⟩
  d_goes_left := ⟨_, _, He.glo_ok X G (c.1.fact 20 (f := .glo "goes_left") rfl), (fun_of (st := s_goes_left) (c.1.def_ 20 (d := dd20) rfl).choose_spec)⟩
  d_goes_right := ⟨_, _, He.glo_ok X G (c.1.fact 21 (f := .glo "goes_right") rfl), (fun_of (st := s_goes_right) (c.1.def_ 21 (d := dd21) rfl).choose_spec)⟩
  d_need_counted := ⟨_, _, He.glo_ok X G (c.1.fact 22 (f := .glo "need_counted") rfl), (fun_of (st := s_need_counted) (c.1.def_ 22 (d := dd22) rfl).choose_spec)⟩
  d_is_empty := ⟨_, _, He.glo_ok X G (c.1.fact 23 (f := .glo "is_empty") rfl), (fun_of (st := s_is_empty) (c.1.def_ 23 (d := dd23) rfl).choose_spec)⟩
  d_stretch := ⟨_, _, He.glo_ok X G (c.1.fact 24 (f := .glo "stretch") rfl), (fun_of (st := s_stretch) (c.1.def_ 24 (d := dd24) rfl).choose_spec)⟩
  d_ahead_of := ⟨_, _, He.glo_ok X G (c.1.fact 25 (f := .glo "ahead_of") rfl), (fun_of (st := s_ahead_of) (c.1.def_ 25 (d := dd25) rfl).choose_spec)⟩
  d_counted := ⟨_, _, He.glo_ok X G (c.1.fact 26 (f := .glo "counted") rfl), (fun_of (st := s_counted) (c.1.def_ 26 (d := dd26) rfl).choose_spec)⟩
  d_nth := ⟨_, _, He.glo_ok X G (c.1.fact 27 (f := .glo "nth") rfl), (fun_of (st := s_nth) (c.1.def_ 27 (d := dd27) rfl).choose_spec)⟩
  d_part := ⟨_, _, He.glo_ok X G (c.1.fact 28 (f := .glo "part") rfl), (fun_of (st := s_part) (c.1.def_ 28 (d := dd28) rfl).choose_spec)⟩
  d_joined := ⟨_, _, He.glo_ok X G (c.1.fact 29 (f := .glo "joined") rfl), (fun_of (st := s_joined) (c.1.def_ 29 (d := dd29) rfl).choose_spec)⟩
  d_rebuilt := ⟨_, _, He.glo_ok X G (c.1.fact 30 (f := .glo "rebuilt") rfl), (fun_of (st := s_rebuilt) (c.1.def_ 30 (d := dd30) rfl).choose_spec)⟩
  d_put := ⟨_, _, He.glo_ok X G (c.1.fact 31 (f := .glo "put") rfl), (fun_of (st := s_put) (c.1.def_ 31 (d := dd31) rfl).choose_spec)⟩
  d_cut := ⟨_, _, He.glo_ok X G (c.1.fact 32 (f := .glo "cut") rfl), (fun_of (st := s_cut) (c.1.def_ 32 (d := dd32) rfl).choose_spec)⟩
  d_shown := ⟨_, _, He.glo_ok X G (c.1.fact 33 (f := .glo "shown") rfl), (fun_of (st := s_shown) (c.1.def_ 33 (d := dd33) rfl).choose_spec)⟩
  d_law_cell_at := ⟨_, _, He.glo_ok X G (c.1.fact 34 (f := .glo "_law_cell_at") rfl), (fun_of (st := s_law_cell_at) (c.1.def_ 34 (d := dd34) rfl).choose_spec)⟩
  d_law_turned := ⟨_, _, He.glo_ok X G (c.1.fact 35 (f := .glo "_law_turned") rfl), (fun_of (st := s_law_turned) (c.1.def_ 35 (d := dd35) rfl).choose_spec)⟩
  d_law_key := ⟨_, _, He.glo_ok X G (c.1.fact 36 (f := .glo "_law_key") rfl), (fun_of (st := s_law_key) (c.1.def_ 36 (d := dd36) rfl).choose_spec)⟩
  d_law_worth := ⟨_, _, He.glo_ok X G (c.1.fact 37 (f := .glo "_law_worth") rfl), (fun_of (st := s_law_worth) (c.1.def_ 37 (d := dd37) rfl).choose_spec)⟩
  d_law_rising := ⟨_, _, He.glo_ok X G (c.1.fact 38 (f := .glo "_law_rising") rfl), (fun_of (st := s_law_rising) (c.1.def_ 38 (d := dd38) rfl).choose_spec)⟩
  d_law_before := ⟨_, _, He.glo_ok X G (c.1.fact 39 (f := .glo "_law_before") rfl), (fun_of (st := s_law_before) (c.1.def_ 39 (d := dd39) rfl).choose_spec)⟩
  d_law_grown := ⟨_, _, He.glo_ok X G (c.1.fact 40 (f := .glo "_law_grown") rfl), (fun_of (st := s_law_grown) (c.1.def_ 40 (d := dd40) rfl).choose_spec)⟩
  d_law_within := ⟨_, _, He.glo_ok X G (c.1.fact 41 (f := .glo "_law_within") rfl), (fun_of (st := s_law_within) (c.1.def_ 41 (d := dd41) rfl).choose_spec)⟩
  d_law_ask := ⟨_, _, He.glo_ok X G (c.1.fact 42 (f := .glo "_law_ask") rfl), (fun_of (st := s_law_ask) (c.1.def_ 42 (d := dd42) rfl).choose_spec)⟩
  d_law_plain := ⟨_, _, He.glo_ok X G (c.1.fact 43 (f := .glo "_law_plain") rfl), (fun_of (st := s_law_plain) (c.1.def_ 43 (d := dd43) rfl).choose_spec)⟩
  d_law_paper_right := ⟨_, _, He.glo_ok X G (c.1.fact 44 (f := .glo "_law_paper_right") rfl), (fun_of (st := s_law_paper_right) (c.1.def_ 44 (d := dd44) rfl).choose_spec)⟩
  d_law_lacks := ⟨_, _, He.glo_ok X G (c.1.fact 45 (f := .glo "_law_lacks") rfl), (fun_of (st := s_law_lacks) (c.1.def_ 45 (d := dd45) rfl).choose_spec)⟩
  d_law_holds := ⟨_, _, He.glo_ok X G (c.1.fact 46 (f := .glo "_law_holds") rfl), (fun_of (st := s_law_holds) (c.1.def_ 46 (d := dd46) rfl).choose_spec)⟩
  d_law := ⟨_, _, He.glo_ok X G (c.1.fact 47 (f := .glo "law") rfl), (fun_of (st := s_law) (c.1.def_ 47 (d := dd47) rfl).choose_spec)⟩
  d_is_within_things := ⟨_, _, He.glo_ok X G (c.1.fact 48 (f := .glo "is_within_things") rfl), (fun_of (st := s_is_within_things) (c.1.def_ 48 (d := dd48) rfl).choose_spec)⟩
  d_is_within := ⟨_, _, He.glo_ok X G (c.1.fact 49 (f := .glo "is_within") rfl), (fun_of (st := s_is_within_trees) (c.1.def_ 49 (d := dd49) rfl).choose_spec)⟩
  d_is_within_trees := ⟨_, _, He.glo_ok X G (c.1.fact 50 (f := .glo "is_within_trees") rfl), (fun_of (st := s_is_within_trees) (c.1.def_ 50 (d := dd50) rfl).choose_spec)⟩
  i_MOST_SEAL := He.int_ok X G (c.1.fact 51 (f := .int "MOST_SEAL" 2305843009213693951) rfl)
  i_BASE := He.int_ok X G (c.1.fact 52 (f := .int "BASE" 1234567890123456789) rfl)
  i_BEGIN := He.int_ok X G (c.1.fact 53 (f := .int "BEGIN" 7) rfl)
  i_HALF := He.int_ok X G (c.1.fact 54 (f := .int "HALF" 1000000000000000) rfl)
  i_LEAST := He.int_ok X G (c.1.fact 55 (f := .int "LEAST" 1000000000000000000000000000000) rfl)
  i_MOST_NUMBER := He.int_ok X G (c.1.fact 56 (f := .int "MOST_NUMBER" 1000000000000000000000000000000) rfl)
  i_MOST_SIGNS := He.int_ok X G (c.1.fact 57 (f := .int "MOST_SIGNS" 60) rfl)
  i_MOST_THINGS := He.int_ok X G (c.1.fact 58 (f := .int "MOST_THINGS" 40) rfl)
  i_DEEPEST := He.int_ok X G (c.1.fact 59 (f := .int "DEEPEST" 5) rfl)
  i_MOST_NODES := He.int_ok X G (c.1.fact 60 (f := .int "MOST_NODES" 300) rfl)
  i_UNBOUND := He.int_ok X G (c.1.fact 61 (f := .int "UNBOUND" 301) rfl)
  b_len := He.free_ok X G (c.1.fact 62 (f := .free "len") rfl)
  b_isinstance := He.free_ok X G (c.1.fact 63 (f := .free "isinstance") rfl)
  b_ord := He.free_ok X G (c.1.fact 64 (f := .free "ord") rfl)
  b_range := He.free_ok X G (c.1.fact 65 (f := .free "range") rfl)
  b_zip := He.free_ok X G (c.1.fact 66 (f := .free "zip") rfl)
  b_int := He.free_ok X G (c.1.fact 67 (f := .free "int") rfl)
  b_reversed := He.free_ok X G (c.1.fact 68 (f := .free "reversed") rfl)
  b_sorted := He.free_ok X G (c.1.fact 69 (f := .free "sorted") rfl)
  b_set := He.free_ok X G (c.1.fact 70 (f := .free "set") rfl)
  b_list := He.free_ok X G (c.1.fact 71 (f := .free "list") rfl)
  b_max := He.free_ok X G (c.1.fact 72 (f := .free "max") rfl)
  b_str := He.free_ok X G (c.1.fact 73 (f := .free "str") rfl)
  b_tuple := He.free_ok X G (c.1.fact 74 (f := .free "tuple") rfl)
  b_bool := He.free_ok X G (c.1.fact 75 (f := .free "bool") rfl)
  g_Keeper := He.glo_ok X G (c.1.fact 76 (f := .glo "Keeper") rfl)
  c_Keeper := He.cls_ok (c.1.fact 77 (f := .cls "Keeper") rfl)
  n_Keeper_by_seal := He.noat_ok (c.1.fact 78 (f := .noat "Keeper" "by_seal") rfl)
  k_Keeper := ⟨_, _, He.mkr_ok (c.1.fact 79 (f := .mkr "Keeper") rfl), (fun_of (st := s_Vault_init) (c.1.def_ 51 (d := dd51) rfl).choose_spec)⟩
  m_Keeper_lay := ⟨_, _, He.meth_ok (c.1.fact 80 (f := .meth "Keeper" "lay") rfl), (fun_of (st := s_Vault_lay) (c.1.def_ 52 (d := dd52) rfl).choose_spec)⟩
  m_Keeper_thing := ⟨_, _, He.meth_ok (c.1.fact 81 (f := .meth "Keeper" "thing") rfl), (fun_of (st := s_Vault_thing) (c.1.def_ 53 (d := dd53) rfl).choose_spec)⟩
  m_Keeper_has := ⟨_, _, He.meth_ok (c.1.fact 82 (f := .meth "Keeper" "has") rfl), (fun_of (st := s_Vault_has) (c.1.def_ 54 (d := dd54) rfl).choose_spec)⟩
  m_Keeper_things := ⟨_, _, He.meth_ok (c.1.fact 83 (f := .meth "Keeper" "things") rfl), (fun_of (st := s_Keeper_things) (c.1.def_ 55 (d := dd55) rfl).choose_spec)⟩
  g_Reader := He.glo_ok X G (c.1.fact 84 (f := .glo "Reader") rfl)
  c_Reader := He.cls_ok (c.1.fact 85 (f := .cls "Reader") rfl)
  n_Reader_by_seal := He.noat_ok (c.1.fact 86 (f := .noat "Reader" "by_seal") rfl)
  n_Reader_beneath := He.noat_ok (c.1.fact 87 (f := .noat "Reader" "beneath") rfl)
  n_Reader_noted := He.noat_ok (c.1.fact 88 (f := .noat "Reader" "noted") rfl)
  k_Reader := ⟨_, _, He.mkr_ok (c.1.fact 89 (f := .mkr "Reader") rfl), (fun_of (st := s_Reader_init) (c.1.def_ 56 (d := dd56) rfl).choose_spec)⟩
  m_Reader_lay := ⟨_, _, He.meth_ok (c.1.fact 90 (f := .meth "Reader" "lay") rfl), (fun_of (st := s_Reader_lay) (c.1.def_ 57 (d := dd57) rfl).choose_spec)⟩
  m_Reader_thing := ⟨_, _, He.meth_ok (c.1.fact 91 (f := .meth "Reader" "thing") rfl), (fun_of (st := s_Reader_thing) (c.1.def_ 58 (d := dd58) rfl).choose_spec)⟩
  m_Reader_has := ⟨_, _, He.meth_ok (c.1.fact 92 (f := .meth "Reader" "has") rfl), (fun_of (st := s_Vault_has) (c.1.def_ 59 (d := dd59) rfl).choose_spec)⟩
  m_Reader_paper := ⟨_, _, He.meth_ok (c.1.fact 93 (f := .meth "Reader" "paper") rfl), (fun_of (st := s_Reader_paper) (c.1.def_ 60 (d := dd60) rfl).choose_spec)⟩
  g_Witness := He.glo_ok X G (c.1.fact 94 (f := .glo "Witness") rfl)
  c_Witness := He.cls_ok (c.1.fact 95 (f := .cls "Witness") rfl)
  n_Witness_by_seal := He.noat_ok (c.1.fact 96 (f := .noat "Witness" "by_seal") rfl)
  k_Witness := ⟨_, _, He.mkr_ok (c.1.fact 97 (f := .mkr "Witness") rfl), (fun_of (st := s_Witness_init) (c.1.def_ 61 (d := dd61) rfl).choose_spec)⟩
  m_Witness_lay := ⟨_, _, He.meth_ok (c.1.fact 98 (f := .meth "Witness" "lay") rfl), (fun_of (st := s_Vault_lay) (c.1.def_ 62 (d := dd62) rfl).choose_spec)⟩
  m_Witness_thing := ⟨_, _, He.meth_ok (c.1.fact 99 (f := .meth "Witness" "thing") rfl), (fun_of (st := s_Vault_thing) (c.1.def_ 63 (d := dd63) rfl).choose_spec)⟩
  m_Witness_has := ⟨_, _, He.meth_ok (c.1.fact 100 (f := .meth "Witness" "has") rfl), (fun_of (st := s_Vault_has) (c.1.def_ 64 (d := dd64) rfl).choose_spec)⟩
  g_Find := He.glo_ok X G (c.1.fact 101 (f := .glo "Find") rfl)
  c_Find := He.cls_ok (c.1.fact 102 (f := .cls "Find") rfl)
  n_Find_key := He.noat_ok (c.1.fact 103 (f := .noat "Find" "key") rfl)
  k_Find := ⟨_, _, He.mkr_ok (c.1.fact 104 (f := .mkr "Find") rfl), (fun_of (st := s_Find_init) (c.1.def_ 65 (d := dd65) rfl).choose_spec)⟩
  m_Find_answer := ⟨_, _, He.meth_ok (c.1.fact 105 (f := .meth "Find" "answer") rfl), (fun_of (st := s_Find_answer) (c.1.def_ 66 (d := dd66) rfl).choose_spec)⟩
  g_Stretch := He.glo_ok X G (c.1.fact 106 (f := .glo "Stretch") rfl)
  c_Stretch := He.cls_ok (c.1.fact 107 (f := .cls "Stretch") rfl)
  n_Stretch_low := He.noat_ok (c.1.fact 108 (f := .noat "Stretch" "low") rfl)
  n_Stretch_high := He.noat_ok (c.1.fact 109 (f := .noat "Stretch" "high") rfl)
  k_Stretch := ⟨_, _, He.mkr_ok (c.1.fact 110 (f := .mkr "Stretch") rfl), (fun_of (st := s_Stretch_init) (c.1.def_ 67 (d := dd67) rfl).choose_spec)⟩
  m_Stretch_answer := ⟨_, _, He.meth_ok (c.1.fact 111 (f := .meth "Stretch" "answer") rfl), (fun_of (st := s_Stretch_answer) (c.1.def_ 68 (d := dd68) rfl).choose_spec)⟩
  g_Count := He.glo_ok X G (c.1.fact 112 (f := .glo "Count") rfl)
  c_Count := He.cls_ok (c.1.fact 113 (f := .cls "Count") rfl)
  n_Count_low := He.noat_ok (c.1.fact 114 (f := .noat "Count" "low") rfl)
  n_Count_high := He.noat_ok (c.1.fact 115 (f := .noat "Count" "high") rfl)
  k_Count := ⟨_, _, He.mkr_ok (c.1.fact 116 (f := .mkr "Count") rfl), (fun_of (st := s_Count_init) (c.1.def_ 69 (d := dd69) rfl).choose_spec)⟩
  m_Count_answer := ⟨_, _, He.meth_ok (c.1.fact 117 (f := .meth "Count" "answer") rfl), (fun_of (st := s_Count_answer) (c.1.def_ 70 (d := dd70) rfl).choose_spec)⟩
  g_Nth := He.glo_ok X G (c.1.fact 118 (f := .glo "Nth") rfl)
  c_Nth := He.cls_ok (c.1.fact 119 (f := .cls "Nth") rfl)
  n_Nth_number := He.noat_ok (c.1.fact 120 (f := .noat "Nth" "number") rfl)
  k_Nth := ⟨_, _, He.mkr_ok (c.1.fact 121 (f := .mkr "Nth") rfl), (fun_of (st := s_Nth_init) (c.1.def_ 71 (d := dd71) rfl).choose_spec)⟩
  m_Nth_answer := ⟨_, _, He.meth_ok (c.1.fact 122 (f := .meth "Nth" "answer") rfl), (fun_of (st := s_Nth_answer) (c.1.def_ 72 (d := dd72) rfl).choose_spec)⟩
  g_Put := He.glo_ok X G (c.1.fact 123 (f := .glo "Put") rfl)
  c_Put := He.cls_ok (c.1.fact 124 (f := .cls "Put") rfl)
  n_Put_key := He.noat_ok (c.1.fact 125 (f := .noat "Put" "key") rfl)
  n_Put_worth := He.noat_ok (c.1.fact 126 (f := .noat "Put" "worth") rfl)
  k_Put := ⟨_, _, He.mkr_ok (c.1.fact 127 (f := .mkr "Put") rfl), (fun_of (st := s_Put_init) (c.1.def_ 73 (d := dd73) rfl).choose_spec)⟩
  m_Put_answer := ⟨_, _, He.meth_ok (c.1.fact 128 (f := .meth "Put" "answer") rfl), (fun_of (st := s_Put_answer) (c.1.def_ 74 (d := dd74) rfl).choose_spec)⟩
  g_Cut := He.glo_ok X G (c.1.fact 129 (f := .glo "Cut") rfl)
  c_Cut := He.cls_ok (c.1.fact 130 (f := .cls "Cut") rfl)
  n_Cut_key := He.noat_ok (c.1.fact 131 (f := .noat "Cut" "key") rfl)
  k_Cut := ⟨_, _, He.mkr_ok (c.1.fact 132 (f := .mkr "Cut") rfl), (fun_of (st := s_Cut_init) (c.1.def_ 75 (d := dd75) rfl).choose_spec)⟩
  m_Cut_answer := ⟨_, _, He.meth_ok (c.1.fact 133 (f := .meth "Cut" "answer") rfl), (fun_of (st := s_Cut_answer) (c.1.def_ 76 (d := dd76) rfl).choose_spec)⟩
  g_Also := He.glo_ok X G (c.1.fact 134 (f := .glo "Also") rfl)
  c_Also := He.cls_ok (c.1.fact 135 (f := .cls "Also") rfl)
  n_Also_asks := He.noat_ok (c.1.fact 136 (f := .noat "Also" "asks") rfl)
  k_Also := ⟨_, _, He.mkr_ok (c.1.fact 137 (f := .mkr "Also") rfl), (fun_of (st := s_Also_init) (c.1.def_ 77 (d := dd77) rfl).choose_spec)⟩
  m_Also_answer := ⟨_, _, He.meth_ok (c.1.fact 138 (f := .meth "Also" "answer") rfl), (fun_of (st := s_Also_answer) (c.1.def_ 78 (d := dd78) rfl).choose_spec)⟩
  g_Vault := He.glo_ok X G (c.1.fact 139 (f := .glo "Vault") rfl)
  f_Vault_init := ⟨_, _, (xok_ok c.2).v0, (fun_of (st := s_Vault_init) (c.1.def_ 79 (d := dd79) rfl).choose_spec).kp, (fun_of (st := s_Vault_init) (c.1.def_ 79 (d := dd79) rfl).choose_spec)⟩
  f_Vault_lay := ⟨_, _, (xok_ok c.2).v1, (fun_of (st := s_Vault_lay) (c.1.def_ 80 (d := dd80) rfl).choose_spec).kp, (fun_of (st := s_Vault_lay) (c.1.def_ 80 (d := dd80) rfl).choose_spec)⟩
  f_Vault_thing := ⟨_, _, (xok_ok c.2).v2, (fun_of (st := s_Vault_thing) (c.1.def_ 81 (d := dd81) rfl).choose_spec).kp, (fun_of (st := s_Vault_thing) (c.1.def_ 81 (d := dd81) rfl).choose_spec)⟩
  g_VaultError := He.glo_ok X G (c.1.fact 140 (f := .glo "VaultError") rfl)
  f_VaultError := (xok_ok c.2).ve
  g_NoPaper := He.glo_ok X G (c.1.fact 141 (f := .glo "NoPaper") rfl)
  g_BadThing := He.glo_ok X G (c.1.fact 142 (f := .glo "BadThing") rfl)
  g_Clash := He.glo_ok X G (c.1.fact 143 (f := .glo "Clash") rfl)
  x_NoPaper := (He.exc_ok (c.1.fact 144 (f := .exc "NoPaper") rfl)).1
  kp_NoPaper := (He.exc_ok (c.1.fact 144 (f := .exc "NoPaper") rfl)).2.1
  sb_NoPaper := (He.exc_ok (c.1.fact 144 (f := .exc "NoPaper") rfl)).2.2.1
  ty_NoPaper := (He.exc_ok (c.1.fact 144 (f := .exc "NoPaper") rfl)).2.2.2
  x_Clash := (xok_ok c.2).xc
  n_Clash_one := He.noat_ok (c.1.fact 145 (f := .noat "Clash" "one") rfl)
  n_Clash_other := He.noat_ok (c.1.fact 146 (f := .noat "Clash" "other") rfl)
  k_Clash := ⟨_, _, (He.meth_ok (c.1.fact 147 (f := .meth "Clash" "__init__") rfl)).at_, of_isFn (He.meth_ok (c.1.fact 147 (f := .meth "Clash" "__init__") rfl)).fn, (fun_of (st := s_Clash_init) (c.1.def_ 82 (d := dd82) rfl).choose_spec)⟩
  r_Clash := (xok_ok c.2).rc
  e_NoPaper_NoPaper := He.exm_ok (c.1.fact 148 (f := .exm "NoPaper" "NoPaper" true) rfl)
  e_Clash_NoPaper := He.exm_ok (c.1.fact 149 (f := .exm "Clash" "NoPaper" false) rfl)
  e_Clash_Clash := He.exm_ok (c.1.fact 150 (f := .exm "Clash" "Clash" true) rfl)
  e_NoPaper_Clash := He.exm_ok (c.1.fact 151 (f := .exm "NoPaper" "Clash" false) rfl)
theorem law_def {K : Frag} (c : He.SaysD fa_ fn_ K ∧ xok K = true) : ∃ fd, FunD K "law" "law" (defArgs s_law) (defBody s_law) (defScope s_law) [] [] (He.ga K "law") fd := c.1.def_ 47 (d := dd47) rfl
end PV
set_option Elab.async false
set_option linter.all false
set_option maxRecDepth 100000
set_option maxHeartbeats 0
/-! The head's run. -/
namespace PV
open PySem PySem.W PySem.Calls PyProof.Rows
abbrev RowR : OpenRow := OpenLaw.row PySem.Challenge.rw_papervault_k52_honest_papers_are_right
abbrev viewQ : Program := view RowR.prog [89]
def names0 : List PySem.Str := ["__name__", "VaultError", "NoPaper", "BadThing", "Clash", "MOST_SEAL", "BASE", "BEGIN", "HALF", "LEAST", "text_codes", "codes_of", "seal", "MOST_NUMBER", "MOST_SIGNS", "MOST_THINGS", "DEEPEST", "is_number", "is_text", "is_within", "is_within_things", "is_thing", "kind_of", "side_of", "ahead", "Vault", "Keeper", "Reader", "Witness", "answer_with_paper"]
def names1 : List PySem.Str := ["checked", "MOST_NODES", "is_whole", "is_node", "node_at", "node_beneath", "size", "size_beneath", "rank", "above", "UNBOUND", "found", "goes_left", "goes_right", "is_within_trees", "need_counted", "is_empty", "stretch", "ahead_of", "counted", "nth", "part", "joined", "rebuilt", "put", "cut", "Ask", "Find", "Stretch", "Count"]
def names2 : List PySem.Str := ["Nth", "Put", "Cut", "Also", "clash_of", "shown", "_law_cell_at", "_law_turned", "_law_key", "_law_worth", "_law_rising", "_law_before", "_law_grown", "_law_within", "_law_ask", "_law_plain", "_law_paper_right", "_law_lacks", "_law_holds"]
def names_ : List PySem.Str := names0 ++ names1 ++ names2
def obR (s : PySem.W.SharedT) : AlX := obsXG (HandSHeadRun.getT s)
theorem obR_eq (s : PySem.W.SharedT) : obR s = hookX.obs s.abs := obsXG_eq (HandSHeadRun.getT_eq s)
theorem run_ (w : World) : HandSHeadRun.RunEq RowR viewQ hookX obR 20000 names_ w := by
  intro os
  kernel_rfl
end PV
set_option Elab.async false
set_option linter.all false
set_option maxRecDepth 100000
set_option maxHeartbeats 4000000
/-! Codes and numbers of things. -/
namespace PV
open PySem PySem.Spec PyProof.Rows L2
theorem fits {i : Int} (h : -2000 ≤ i) (h2 : i ≤ 2000) : Builtin.Range.rangeFitsLong i = true := by
  unfold Builtin.Range.rangeFitsLong
  rw [Bool.and_eq_true]
  exact ⟨decide_eq_true (by omega), decide_eq_true (by omega)⟩
theorem chunk_range {n : Nat} (h : n ≤ 1000) : RgC 0 (n : Int) 7 ((n + 6) / 7) := by
  refine ⟨by decide, by decide, ?_, ?_⟩
  · unfold Builtin.Range.small
    rw [PyProof.Rows.rangeSize_pos (by decide) (by omega)]
    rw [fits (by decide) (by decide), fits (i := (n : Int)) (by omega) (by omega), fits (i := 7) (by decide) (by decide), fits (i := ((n : Int) + 7 - 1) / 7) (by omega) (by omega), if_pos (by decide), fits (i := (n : Int) + (7 - 1)) (by omega) (by omega), Bool.or_true]
    rfl
  · rw [PyProof.Rows.rangeSize_pos (by decide) (by omega)]
    omega
theorem textCode_snoc (l : List Nat) (c : Nat) : textCode (l ++ [c]) = 128 * textCode l + (c : Int) := by
  unfold textCode
  rw [List.foldl_append]; rfl
theorem take_snoc {α : Type} {l : List α} {i : Nat} {x : α} (h : l[i]? = some x) : l.take (i + 1) = l.take i ++ [x] := by
  obtain ⟨hi, e⟩ := List.getElem?_eq_some_iff.mp h
  rw [List.take_succ_eq_append_getElem hi, e]
theorem cut7 {z : Str} {i : Nat} (h : 7 * i < z.length) : (cutS z (some ((7 * i : Nat) : Int)) (some ((7 * i : Nat) + 7 : Int))).cps.toList = (z.cps.toList.drop (7 * i)).take 7 := by
  have hl : z.cps.toList.length = z.length := Array.length_toList
  unfold cutS
  rw [show ((7 * i : Nat) + 7 : Int) = ((7 * i + 7 : Nat) : Int) by omega, HT.sIx_nat, HT.sIx_nat, Nat.min_eq_left (Nat.le_of_lt h)]
  show (List.take _ (List.drop (7 * i) z.cps.toList)) = _
  by_cases q : 7 * i + 7 ≤ z.length
  · rw [Nat.min_eq_left q, show 7 * i + 7 - 7 * i = 7 by omega]
  · rw [Nat.min_eq_right (by omega), List.take_of_length_le (by rw [List.length_drop, hl]; omega), List.take_of_length_le (by rw [List.length_drop, hl]; omega)]
def spTC : Sp := fun vs H Q _ => ∃ z : Str, vs = [.str z] ∧ z.length ≤ 60 ∧ ∀ H' p, Same H H' → H p = none → H' p = some (.lst ((textCodes z.cps.toList).map V.int)) → Q (.ref p) H'
section
variable {P : Program} {w : World} {K : Frag} {mg : Str → Option Value} {base : Heap}
theorem sc_tc : FnScope ["text", "found", "at", "code", "sign"] ["text"] (defScope s_text_codes) := ⟨rfl, rfl, rfl, by decide +kernel, rfl, by decide +kernel, by decide +kernel⟩
theorem same_upd {H H' : Hp} {p : Addr} {o : HO} (s : Same H H') (h : H p = none) : Same H (upd H' p o) := fun b u e => by
  rw [upd_ne (ne_of_none e h)]
  exact s b u e
theorem c_text_codes (T : Txt K mg) : Cal P w K mg base CX0 1 "text_codes" ["text"] spTC := by
  refine T.d_text_codes.cal (fun f fd F => F.ok sc_tc (fun vs H Q E h => ?_) (fun cdv A outer s H vs Q E hr h => ?_)) (fun _ _ _ _ _ _ us hl => match us, hl with | [_], _ => rfl)
  · obtain ⟨z, rfl, _⟩ := h
    rfl
  · obtain ⟨z, rfl, hz, k⟩ := h
    refine ⟨_, pss_cons (ps_set (i := 1) sc_tc.nd rfl (.inl rfl) (pe_lst pa_nil)) (pss_cons
      (ps_for PassesOwn.never rfl (pi_range3 rfl T.b_range (pa_cons pe_int (pa_cons (pe_callB call_len_str (by rfl) T.b_len PySem.boot_len (pa_cons (pv 0) pa_nil)) (pa_cons pe_int pa_nil)))) (pg_name (i := 2) sc_tc.nd rfl (.inl rfl))
        (pss_cons (ps_set (i := 3) sc_tc.nd rfl (.inl rfl) pe_int) (pss_cons
          (ps_for PassesOwn.never rfl (pi_str (pe_slice sl_str (pv 0) (po_some (pv 2)) (po_some (pe_op op_add (pv 2) pe_int)))) (pg_name (i := 4) sc_tc.nd rfl (.inl rfl))
            (pss_one (ps_set (i := 3) sc_tc.nd rfl (.inl rfl) (pe_op op_add (pe_op op_mul pe_int (pv 3)) (pe_callB call_ord (by rfl) T.b_ord (by decide +kernel) (pa_cons (pv 4) pa_nil))))))
          (pss_one (ps_expr (pe_bm PySem.F.plainAttrs_list PySem.F.slot_list_append PySem.F.type_list_append mt_append (pv 1) (pa_cons (pv 3) pa_nil)))))))
      (pss_one (ps_ret (pv 1)))), ?_⟩
    refine ⟨Nat.zero_le _, fun l hl => ?_⟩
    have hzl : z.length ≤ sizeLine := Nat.le_trans hz (by decide)
    refine ⟨_, rfl, z, rfl, hzl, 0, (z.length : Int), 7, (z.length + 6) / 7, rfl, chunk_range (by omega), ?_⟩
    refine for_it walk_rangeC (fun i σ H' => ∃ a b c : Option V, σ = [some (.str z), some (.ref l), a, b, c] ∧ Same H H' ∧ H' l = some (.lst (((List.range i).map fun k => textCode ((z.cps.toList.drop (7 * k)).take 7)).map V.int)))
      ⟨none, none, none, rfl, same_upd (Same.refl H) hl, upd_same⟩ (fun _ _ _ _ _ => trivial) ?_ ?_
    · rintro i x σ H1 H2 hi ⟨a, b, c, rfl, hs, hL⟩ ⟨rfl, rfl⟩
      have ei : (0 : Int) + (i : Nat) * 7 = ((7 * i : Nat) : Int) := by omega
      have h7 : 7 * i < z.length := by omega
      show gName 2 (.int (0 + (i : Nat) * 7)) _ _ _
      rw [ei]
      refine ⟨_, rfl, _, rfl, _, rfl, _, rfl, _, _, rfl, rfl, _, rfl, z, rfl, hzl, _, rfl, ?_⟩
      have ey := cut7 h7
      generalize cutS z (some ((7 * i : Nat) : Int)) (some ((7 * i : Nat) + 7 : Int)) = y at ey
      refine for_it walk_str (fun j σ H' => ∃ d : Option V, σ = [some (.str z), some (.ref l), some (.int ((7 * i : Nat) : Int)), some (.int (textCode (y.cps.toList.take j))), d] ∧ H' = H2)
        ⟨c, rfl, rfl⟩ (fun _ _ _ _ _ => trivial) ?_ ?_
      · rintro j x σ H3 H4 hj ⟨d, rfl, rfl⟩ ⟨rfl, cc, hc, rfl⟩
        refine ⟨_, rfl, _, _, rfl, rfl, .inl (by decide), _, rfl, _, rfl, rfl, _, _, rfl, rfl, ?_⟩
        refine ⟨some (.str ⟨#[cc]⟩), ?_, rfl⟩
        have e1 : y.cps.toList[j]? = some cc := by rw [Array.getElem?_toList]; exact hc
        rw [take_snoc e1, textCode_snoc]
        rfl
      · rintro σ H3 ⟨d, rfl, rfl⟩
        refine ⟨_, rfl, .inl ⟨rfl, _, SqL.of hL⟩, _, rfl, l, _, _, rfl, rfl, hL, ?_, ?_⟩
        · rw [List.length_map, List.length_map, List.length_range]
          exact Nat.lt_of_lt_of_le (show i < 1000 by omega) (by decide)
        · refine ⟨_, _, _, rfl, same_upd hs hl, ?_⟩
          rw [upd_same, List.range_succ, List.map_append, List.map_append]
          have e2 : y.cps.toList.take y.cps.size = y.cps.toList := List.take_of_length_le (by rw [Array.length_toList]; exact Nat.le_refl _)
          rw [e2, ey]
          rfl
    · rintro σ H1 ⟨a, b, c, rfl, hs, hL⟩
      exact ⟨_, rfl, k H1 l hs hl hL⟩
end
end PV
set_option Elab.async false
set_option linter.all false
set_option maxRecDepth 100000
set_option maxHeartbeats 4000000
/-! isinstance of things; codes_of, seal. -/
namespace PV
open PySem PySem.Spec PyProof.Rows L2
inductive Tn where
  | int | str | tup | bl
def Tn.name : Tn → String
  | .int => "int"
  | .str => "str"
  | .tup => "tuple"
  | .bl => "bool"
def Th.ty : Th → String
  | .non => "NoneType"
  | .int _ => "int"
  | .str _ => "str"
  | .tup _ => "tuple"
def Th.isT : Tn → Th → Bool
  | .int, .int _ => true
  | .str, .str _ => true
  | .tup, .tup _ => true
  | _, _ => false
theorem ta_ty {K : Frag} {H : Hp} {v : V} {t : Th} (h : ThA H v t) : TyX K H v (.type t.ty) := by
  cases h with
  | non => exact .base .non
  | int i => exact .base (.int i)
  | str s => exact .base (.str s)
  | tup h r => exact .base (.tup h)
theorem kit_th (n : Tn) (t : Th) : kitB t.ty n.name = some (t.isT n) := by
  cases n <;> cases t <;> first
    | exact (by decide +kernel : kitB "NoneType" "int" = some false)
    | exact (by decide +kernel : kitB "int" "int" = some true)
    | exact (by decide +kernel : kitB "str" "int" = some false)
    | exact (by decide +kernel : kitB "tuple" "int" = some false)
    | exact (by decide +kernel : kitB "NoneType" "str" = some false)
    | exact (by decide +kernel : kitB "int" "str" = some false)
    | exact (by decide +kernel : kitB "str" "str" = some true)
    | exact (by decide +kernel : kitB "tuple" "str" = some false)
    | exact (by decide +kernel : kitB "NoneType" "tuple" = some false)
    | exact (by decide +kernel : kitB "int" "tuple" = some false)
    | exact (by decide +kernel : kitB "str" "tuple" = some false)
    | exact (by decide +kernel : kitB "tuple" "tuple" = some true)
    | exact (by decide +kernel : kitB "NoneType" "bool" = some false)
    | exact (by decide +kernel : kitB "int" "bool" = some false)
    | exact (by decide +kernel : kitB "str" "bool" = some false)
    | exact (by decide +kernel : kitB "tuple" "bool" = some false)
/-- isinstance(x, T), x a thing -/
def rIsTh (n : Tn) : List V → Hp → VK → Prop := fun xs H Q => ∃ (x : V) (t : Th), xs = [x, .ty n.name] ∧ ThA H x t ∧ Q (.bl (t.isT n)) H
theorem cr_isTh {X : Cx} (n : Tn) : CallR X (.builtin "isinstance") (rIsTh n) := by
  intro pins s σ H xs us Q I r h
  obtain ⟨x, t, rfl, ha, q⟩ := h
  exact call_isi pins s σ H _ us Q I r ⟨x, .ty n.name, .type t.ty, .type n.name, t.isT n, rfl, .ty _, ta_ty ha, kit_ty (kit_th n t), q⟩
theorem pe_isi {X : Cx} {e : Expr} {ta : TE} {x : Str} {p p2 pos : Pos} (n : Tn) (he : PE X e ta) (hi : X.mg "isinstance" = none) (hm : X.mg x = none) (hv : bootBuiltins x = some (.type n.name)) (hg : Gl X "isinstance" := by rfl) (hg2 : Gl X x := by rfl) (hn : x ≠ "__name__" := by decide) (hd : (x == ("__debug__" : Str)) = false := by decide)
    (hs : starEach [e, .Name x p2] X.env = (false, eval e X.env) :: starEach [.Name x p2] X.env := by rfl) (hs2 : starEach [.Name x p2] X.env = (false, eval (.Name x p2) X.env) :: starEach [] X.env := by rfl) (hpl : (backTo pos (starEach [.Name x p2] X.env)).any (·.1) = false := by rfl) :
    PE X (.Call (.Name "isinstance" p) [e, .Name x p2] [] pos) (tCB (rIsTh n) (tCons ta (tCons (tC (.ty n.name)) tNil))) :=
  pe_callB (p := p) (pos := pos) (cr_isTh n) hg hi PyProof.Rows.boot_isinstance (pa_cons he (pa_cons (pe_bltn (v := .ty n.name) (pos := p2) hg2 hm hv rfl hn hd) pa_nil hs2) hs) (hpl := hpl) (he := hs)
theorem bt_int : bootBuiltins "int" = some (.type Tn.int.name) := PyProof.Rows.boot_int
theorem bt_str : bootBuiltins "str" = some (.type Tn.str.name) := PyProof.Rows.boot_str
theorem bt_tup : bootBuiltins "tuple" = some (.type Tn.tup.name) := PyProof.Rows.boot_tuple
theorem bt_bl : bootBuiltins "bool" = some (.type Tn.bl.name) := PyProof.Rows.boot_bool
theorem pe_gint {X : Cx} {x : Str} {i : Int} {pos : Pos} (h : IntT X.mg x i) (hg : Gl X x := by rfl) (hd : (x == ("__debug__" : Str)) = false := by decide) : PE X (.Name x pos) (tC (.int i)) := by
  obtain ⟨t, e⟩ := h
  exact pe_glob hg e ⟨t, rfl⟩ hd
/-- a list that is new -/
abbrev NewL (H : Hp) (Q : VK) (l : List V) : Prop := ∀ H' p, Same H H' → H p = none → H' p = some (.lst l) → Q (.ref p) H'
def spCO : Nat → Sp
  | 0 => fun _ _ _ _ => False
  | d + 1 => fun vs H Q _ => ∃ v t, vs = [v] ∧ ThA H v t ∧ t.within d = true ∧ t.codes.length ≤ 1000 ∧ NewL H Q (t.codes.map V.int)
theorem codesL_app : ∀ (a b : List Th), Th.codesL (a ++ b) = Th.codesL a ++ Th.codesL b
  | [], b => rfl
  | x :: a, b => by
    rw [List.cons_append, Th.codesL, Th.codesL, codesL_app a b, List.append_assoc]
theorem codesL_one (a : Th) : Th.codesL [a] = a.codes := by rw [Th.codesL, Th.codesL, List.append_nil]
theorem codesL_take {l : List Th} {i : Nat} {x : Th} (h : l[i]? = some x) : Th.codesL (l.take (i + 1)) = Th.codesL (l.take i) ++ x.codes := by rw [take_snoc h, codesL_app, codesL_one]
theorem codesL_le {l : List Th} {i : Nat} {x : Th} (h : l[i]? = some x) : (Th.codesL (l.take i)).length + x.codes.length ≤ (Th.codesL l).length := by
  have e : l = l.take (i + 1) ++ l.drop (i + 1) := (List.take_append_drop _ _).symm
  conv => rhs; rw [e]
  rw [codesL_app, codesL_take h, List.length_append, List.length_append]
  omega
section
variable {P : Program} {w : World} {K : Frag} {mg : Str → Option Value} {base : Heap}
theorem sc_co : FnScope ["thing", "found", "part"] ["thing"] (defScope s_codes_of) := ⟨rfl, rfl, rfl, by decide +kernel, rfl, by decide +kernel, by decide +kernel⟩
theorem spCO_len : ∀ {d : Nat} {vs : List V} {H : Hp} {Q : VK} {E : XK}, spCO d vs H Q E → vs.length = 1
  | d + 1, _, _, _, _, ⟨_, _, rfl, _⟩ => rfl
theorem c_codes_of (T : Txt K mg) : ∀ d : Nat, Cal P w K mg base CX0 (d + 1) "codes_of" ["thing"] (spCO d)
  | 0 => by
    refine T.d_codes_of.cal (fun f fd F => F.ok sc_co (fun vs H Q E h => spCO_len h) (fun cdv A outer s H vs Q E hr h => h.elim)) (fun _ _ _ _ _ _ us hl => match us, hl with | [_], _ => rfl)
  | d + 1 => by
    have G := c_codes_of T d
    have GT := c_text_codes (P := P) (w := w) (base := base) T
    refine T.d_codes_of.cal (fun f fd F => F.ok sc_co (fun vs H Q E h => spCO_len h) (fun cdv A outer s H vs Q E hr h => ?_)) (fun _ _ _ _ _ _ us hl => match us, hl with | [_], _ => rfl)
    obtain ⟨v, t, rfl, hA, hw, hlen, k⟩ := h
    refine ⟨_, pss_cons (ps_if (pt_cmpR op_isN (pv 0) pe_non (nomark _)) (pss_one (ps_ret (pe_lst (pa_cons pe_int pa_nil)))) pss_nil)
      (pss_cons (ps_if (pt_val (pe_isi .int (pv 0) T.b_isinstance T.b_int bt_int)) (pss_one (ps_ret (pe_lst (pa_cons pe_int (pa_cons (pe_op op_fdivW (pe_op op_add (pv 0) (pe_gint T.i_LEAST)) (pe_gint T.i_HALF)) (pa_cons (pe_op op_mod (pe_op op_add (pv 0) (pe_gint T.i_LEAST)) (pe_gint T.i_HALF)) pa_nil)))))) pss_nil)
      (pss_cons (ps_if (pt_val (pe_isi .str (pv 0) T.b_isinstance T.b_str bt_str)) (pss_one (ps_ret (pe_op op_cat (pe_lst (pa_cons pe_int (pa_cons (pe_callB call_len_str (by rfl) T.b_len PySem.boot_len (pa_cons (pv 0) pa_nil)) pa_nil))) (pe_cal GT (hr.mono (by omega)) pass0 (pa_cons (pv 0) pa_nil))))) pss_nil)
      (pss_cons (ps_set (i := 1) sc_co.nd rfl (.inl rfl) (pe_lst (pa_cons pe_int (pa_cons (pe_callB call_len_seq (by rfl) T.b_len PySem.boot_len (pa_cons (pv 0) pa_nil)) pa_nil))))
      (pss_cons (ps_for PassesOwn.never rfl (pi_tup (pv 0)) (pg_name (i := 2) sc_co.nd rfl (.inl rfl))
        (pss_one (ps_expr (pe_bm PySem.F.plainAttrs_list PySem.F.slot_list_extend PySem.F.type_list_extend mt_extend (pv 1) (pa_cons (pe_cal G hr pass0 (pa_cons (pv 2) pa_nil)) pa_nil)))))
      (pss_one (ps_ret (pv 1))))))), ?_⟩
    cases hA with
    | non =>
      refine ⟨_, rfl, rfl, _, rfl, iteT ?_⟩
      exact ⟨by decide, fun p hp => k _ p (same_upd (Same.refl H) hp) hp upd_same⟩
    | int i =>
      refine ⟨_, rfl, rfl, _, rfl, iteF ?_⟩
      refine ⟨_, rfl, _, .int i, rfl, .int i, _, rfl, iteT ?_⟩
      refine ⟨_, rfl, _, _, rfl, rfl, _, _, rfl, rfl, wide_div (b := 60) (by decide) (by decide) (by decide) (by decide), _, rfl, _, _, rfl, rfl, _, _, rfl, rfl, (by show (0 : Int) < 1000000000000000; decide), (by show 3 ≤ sizeLine; decide), fun p hp => k _ p (same_upd (Same.refl H) hp) hp upd_same⟩
    | str z =>
      have hz : z.length ≤ 60 := by
        have q : okStr z = true := by simpa [Th.within] using hw
        unfold okStr at q
        rw [Bool.and_eq_true, decide_eq_true_eq] at q
        exact q.1
      refine ⟨_, rfl, rfl, _, rfl, iteF ?_⟩
      refine ⟨_, rfl, _, .str z, rfl, .str z, _, rfl, iteF ?_⟩
      refine ⟨_, rfl, _, .str z, rfl, .str z, _, rfl, iteT ?_⟩
      refine ⟨_, rfl, z, rfl, Nat.le_trans hz (by decide), (by show 2 ≤ sizeLine; decide), fun p hp => ?_⟩
      refine ⟨_, rfl, z, rfl, hz, fun H2 q s2 hq hl => ?_⟩
      have h2 : H2 p = some (.lst [V.int 3, V.int (z.length : Int)]) := s2 p _ upd_same
      refine ⟨p, q, _, _, rfl, rfl, h2, hl, ?_, fun r hr2 => ?_⟩
      · have e1 : (Th.str z).codes.length = 2 + (textCodes z.cps.toList).length := by rw [Th.codes, List.length_append]; rfl
        rw [List.length_map]
        exact Nat.le_trans (show 2 + (textCodes z.cps.toList).length ≤ 1000 by omega) (by decide)
      · refine k _ r (fun b o e => ?_) ?_ ?_
        · have e2 := s2 b o (by rw [upd_ne (ne_of_none e hp)]; exact e)
          rw [upd_ne (ne_of_none e2 hr2)]
          exact e2
        · cases e : H r with
          | none => rfl
          | some o =>
            have e2 := s2 r o (by rw [upd_ne (ne_of_none e hp)]; exact e)
            rw [e2] at hr2
            cases hr2
        · rw [upd_same, Th.codes, List.map_append]
          rfl
    | @tup a xs l ht hl =>
      obtain ⟨d', rfl⟩ : ∃ d', d = d' + 1 := by
        cases d with
        | zero => simp [Th.within] at hw
        | succ d' => exact ⟨d', rfl⟩
      rw [Th.within, Bool.and_eq_true, decide_eq_true_eq] at hw
      have hxl := hl.len
      have ec : (Th.tup l).codes.length = 2 + (Th.codesL l).length := by rw [Th.codes, List.length_append]; rfl
      refine ⟨_, rfl, rfl, _, rfl, iteF ?_⟩
      refine ⟨_, rfl, _, .tup l, rfl, .tup ht hl, _, rfl, iteF ?_⟩
      refine ⟨_, rfl, _, .tup l, rfl, .tup ht hl, _, rfl, iteF ?_⟩
      refine ⟨_, rfl, a, xs, rfl, .inr (SqT.of ht), (by show 2 ≤ sizeLine; decide), fun p hp => ?_⟩
      have np : ∀ {b o}, H b = some o → b ≠ p := fun {b o} e => ne_of_none e hp
      refine ⟨_, rfl, a, rfl, ⟨xs, SqT.of (by rw [upd_ne (np ht)]; exact ht)⟩, ?_⟩
      refine for_it (walk_tup (xs := xs)) (fun i σ H' => ∃ b : Option V, σ = [some (.ref a), some (.ref p), b] ∧ Same H H' ∧ H' p = some (.lst (([4, (l.length : Int)] ++ Th.codesL (l.take i)).map V.int)))
        ⟨none, rfl, same_upd (Same.refl H) hp, by rw [upd_same, hxl]; rfl⟩ (fun i σ H' _ ⟨_, _, hs, _⟩ => SqT.of (hs a _ ht)) ?_ ?_
      · rintro i x σ H1 H2 hi ⟨b, rfl, hs, hL⟩ ⟨rfl, hx⟩
        obtain ⟨t', ht', hA'⟩ := hl.at_ hx
        have hle := codesL_le ht'
        refine ⟨_, rfl, .inl ⟨rfl, _, SqL.of hL⟩, _, rfl, x, t', rfl, hA'.mono (TK.of hs), withinL_mem hw.2 _ (List.mem_of_getElem? ht'), by omega, fun H3 q s3 hq hl3 => ?_⟩
        have h3 := s3 p _ hL
        refine ⟨p, q, _, _, rfl, rfl, h3, hl3, ?_, ?_⟩
        · rw [List.length_map, List.length_map, List.length_append]
          exact Nat.le_trans (show 2 + (Th.codesL (l.take i)).length + t'.codes.length ≤ 1000 by omega) (by decide)
        · refine ⟨_, rfl, same_upd (hs.trans s3) hp, ?_⟩
          rw [upd_same, codesL_take ht']
          simp only [List.map_append, List.append_assoc]
      · rintro σ H1 ⟨b, rfl, hs, hL⟩
        refine ⟨_, rfl, k H1 p hs hp ?_⟩
        rw [hL, hxl, List.take_length, Th.codes]
/-- seal(thing) -/
def spSl : Sp := fun vs H Q _ => ∃ v t, vs = [v] ∧ ThA H v t ∧ t.fit = true ∧ ∀ H', Same H H' → Q (.int (sealOf t)) H'
theorem sc_sl : FnScope ["thing", "last", "code"] ["thing"] (defScope s_seal) := ⟨rfl, rfl, rfl, by decide +kernel, rfl, by decide +kernel, by decide +kernel⟩
theorem c_seal (T : Txt K mg) : Cal P w K mg base CX0 8 "seal" ["thing"] spSl := by
  have G := c_codes_of (P := P) (w := w) (base := base) T 6
  refine T.d_seal.cal (fun f fd F => F.ok sc_sl (fun vs H Q E h => ?_) (fun cdv A outer s H vs Q E hr h => ?_)) (fun _ _ _ _ _ _ us hl => match us, hl with | [_], _ => rfl)
  · obtain ⟨_, _, rfl, _⟩ := h
    rfl
  · obtain ⟨v, t, rfl, hA, hf, k⟩ := h
    have hf' := fit_iff.mp hf
    refine ⟨_, pss_cons (ps_set (i := 1) sc_sl.nd rfl (.inl rfl) (pe_gint T.i_BEGIN))
      (pss_cons (ps_for PassesOwn.never rfl (pi_list (pe_cal G hr pass0 (pa_cons (pv 0) pa_nil))) (pg_name (i := 2) sc_sl.nd rfl (.inl rfl))
        (pss_one (ps_set (i := 1) sc_sl.nd rfl (.inl rfl) (pe_op op_mod (pe_op op_add (pe_op op_mul (pv 1) (pe_gint T.i_BASE)) (pv 2)) (pe_gint T.i_MOST_SEAL)))))
      (pss_one (ps_ret (pe_op op_add (pv 1) pe_int)))), ?_⟩
    refine ⟨_, rfl, v, t, rfl, hA, hf'.1, hf'.2, fun H1 p s1 hp hL => ?_⟩
    refine ⟨p, rfl, ⟨_, SqL.of hL⟩, for_it (walk_list (xs := t.codes.map V.int)) (fun i σ H' => ∃ b : Option V, σ = [some v, some (.int ((t.codes.take i).foldl sealStep 7)), b] ∧ H' = H1)
      ⟨none, rfl, rfl⟩ (fun i σ H' _ ⟨_, _, e⟩ => by rw [e]; exact SqL.of hL) ?_ ?_⟩
    · rintro i x σ H2 H3 hi ⟨b, rfl, rfl⟩ ⟨rfl, hx⟩
      rw [List.getElem?_map] at hx
      cases e : t.codes[i]? with
      | none => rw [e] at hx; cases hx
      | some c =>
        rw [e] at hx
        cases hx
        refine ⟨_, rfl, _, _, rfl, rfl, .inr (by decide), _, rfl, _, _, rfl, rfl, _, _, rfl, rfl, (by show (0 : Int) < 2305843009213693951; decide), some (.int c), ?_, rfl⟩
        rw [take_snoc e, List.foldl_append]
        rfl
    · rintro σ H2 ⟨b, rfl, rfl⟩
      refine ⟨_, rfl, _, _, rfl, rfl, ?_⟩
      have q := k H2 s1
      rw [List.length_map, List.take_length]
      exact q
end
end PV
set_option Elab.async false
set_option linter.all false
set_option maxRecDepth 100000
set_option maxHeartbeats 4000000
/-! Things: kinds, order, what may be laid; ranks. -/
namespace PV
open PySem PySem.Spec PyProof.Rows L2
def kindN : Ky → Int
  | .int _ => 1
  | .str _ => 2
def sideN (a b : Ky) : Int := if ahead a b = true then -1 else if a = b then 0 else 1
theorem sideN_lt (a b : Ky) : decide (sideN a b < 0) = ahead a b := by
  unfold sideN
  by_cases h : ahead a b = true
  · rw [if_pos h, h]; decide
  · rw [if_neg h]
    have h' : ahead a b = false := by simpa using h
    rw [h']
    split <;> decide
def spKind : Sp := fun vs H Q _ => ∃ k : Ky, vs = [kyV k] ∧ Q (.int (kindN k)) H
def spSide : Sp := fun vs H Q _ => ∃ a b : Ky, vs = [kyV a, kyV b] ∧ Q (.int (sideN a b)) H
def spAhead : Sp := fun vs H Q _ => ∃ a b : Ky, vs = [kyV a, kyV b] ∧ Q (.bl (ahead a b)) H
theorem eqB {A B : Prop} {b : Bool} (e : b = true) (h : A) : if b = true then A else B := by rw [e]; exact iteT h
theorem neB {A B : Prop} {b : Bool} (e : b = false) (h : B) : if b = true then A else B := by rw [e]; exact iteF h
theorem dec_kyV {a b : Ky} : decide (kyV a = kyV b) = decide (a = b) := by
  rw [decide_eq_decide]
  cases a <;> cases b <;> simp [kyV]
theorem op_ltK {X : Cx} : OpR X (compareOp .Lt) (fun x y H Q => ∃ a b : Ky, x = kyV a ∧ y = kyV b ∧ kindN a = kindN b ∧ Q (.bl (ahead a b)) H) := by
  intro pins s σ H x y v u Q I rx ry h
  obtain ⟨a, b, rfl, rfl, hk, q⟩ := h
  cases a with
  | int i =>
    cases b with
    | int j => exact op_lt pins s σ H _ _ v u Q I rx ry ⟨i, j, rfl, rfl, q⟩
    | str t => exact absurd hk (by simp [kindN])
  | str z =>
    cases b with
    | int j => exact absurd hk (by simp [kindN])
    | str t => exact op_lt_str pins s σ H _ _ v u Q I rx ry ⟨z, t, rfl, rfl, q⟩
section
variable {P : Program} {w : World} {K : Frag} {mg : Str → Option Value} {base : Heap}
theorem sc_kind : FnScope ["thing"] ["thing"] (defScope s_kind_of) := ⟨rfl, rfl, rfl, by decide +kernel, rfl, by decide +kernel, by decide +kernel⟩
theorem c_kind_of (T : Txt K mg) : Cal P w K mg base CX0 1 "kind_of" ["thing"] spKind := by
  refine T.d_kind_of.cal (fun f fd F => F.ok sc_kind (fun vs H Q E h => ?_) (fun cdv A outer s H vs Q E hr h => ?_)) (fun _ _ _ _ _ _ us hl => match us, hl with | [_], _ => rfl)
  · obtain ⟨_, rfl, _⟩ := h
    rfl
  · obtain ⟨k, rfl, q⟩ := h
    refine ⟨_, pss_cons (ps_if (pt_cmpR op_isN (pv 0) pe_non (nomark _)) (pss_one (ps_ret pe_int)) pss_nil)
      (pss_cons (ps_if (pt_val (pe_isi .int (pv 0) T.b_isinstance T.b_int bt_int)) (pss_one (ps_ret pe_int)) pss_nil)
      (pss_cons (ps_if (pt_val (pe_isi .str (pv 0) T.b_isinstance T.b_str bt_str)) (pss_one (ps_ret pe_int)) pss_nil)
      (pss_one (ps_ret pe_int)))), ?_⟩
    cases k with
    | int i =>
      refine ⟨_, rfl, rfl, _, rfl, iteF ?_⟩
      exact ⟨_, rfl, _, .int i, rfl, .int i, _, rfl, iteT q⟩
    | str z =>
      refine ⟨_, rfl, rfl, _, rfl, iteF ?_⟩
      refine ⟨_, rfl, _, .str z, rfl, .str z, _, rfl, iteF ?_⟩
      exact ⟨_, rfl, _, .str z, rfl, .str z, _, rfl, iteT q⟩
theorem sc_side : FnScope ["one", "other", "part", "another", "side"] ["one", "other"] (defScope s_side_of) := ⟨rfl, rfl, rfl, by decide +kernel, rfl, by decide +kernel, by decide +kernel⟩
theorem c_side_of (T : Txt K mg) : Cal P w K mg base CX0 2 "side_of" ["one", "other"] spSide := by
  have G := c_kind_of (P := P) (w := w) (base := base) T
  refine T.d_side_of.cal (fun f fd F => F.ok sc_side (fun vs H Q E h => ?_) (fun cdv A outer s H vs Q E hr h => ?_)) (fun _ _ _ _ _ _ us hl => match us, hl with | [_, _], _ => rfl)
  · obtain ⟨_, _, rfl, _⟩ := h
    rfl
  · obtain ⟨a, b, rfl, q⟩ := h
    refine ⟨_, pss_cons (ps_if (pt_cmpR op_ne (pe_cal G hr pass0 (pa_cons (pv 0) pa_nil)) (pe_cal G hr pass0 (pa_cons (pv 1) pa_nil)) (nomark _))
        (pss_one (ps_ret (pe_op op_sub pe_int (pe_op op_mul pe_int (pe_callTy call_int1 (by rfl) T.b_int PyProof.Rows.boot_int (pa_cons (pe_cmpR op_lt (pe_cal G hr pass0 (pa_cons (pv 0) pa_nil)) (pe_cal G hr pass0 (pa_cons (pv 1) pa_nil)) (nomark _)) pa_nil)))))) pss_nil)
      (pss_cons (ps_if (pt_cmpR op_eq (pv 0) (pv 1) (nomark _)) (pss_one (ps_ret pe_int)) pss_nil)
      (pss_cons (ps_if (pt_not (pt_val (pe_isi .tup (pv 0) T.b_isinstance T.b_tuple bt_tup))) (pss_one (ps_ret (pe_op op_sub pe_int (pe_op op_mul pe_int (pe_callTy call_int1 (by rfl) T.b_int PyProof.Rows.boot_int (pa_cons (pe_cmpR op_ltK (pv 0) (pv 1) (nomark _)) pa_nil)))))) pss_nil)
        pss_never)), ?_⟩
    refine ⟨_, rfl, a, rfl, _, rfl, b, rfl, rfl, _, rfl, ?_⟩
    have e1 : (!decide (V.int (kindN a) = V.int (kindN b))) = !decide (kindN a = kindN b) := by
      rw [dec_int]; rfl
    by_cases hk : kindN a = kindN b
    · refine neB (by rw [e1, decide_eq_true hk]; rfl) ?_
      have hs : scal (kyV a) (kyV b) = true := by
        cases a <;> cases b <;> first | rfl | exact absurd hk (by simp [kindN])
      refine ⟨_, rfl, _, rfl, hs, _, rfl, ?_⟩
      by_cases he : a = b
      · refine eqB (by rw [dec_kyV, decide_eq_true he]) ?_
        have e2 : sideN a b = 0 := by unfold sideN; rw [he, ahead_irrefl]; simp
        rw [e2] at q
        exact q
      · refine neB (by rw [dec_kyV, decide_eq_false he]) ?_
        have hA : ThA H (kyV a) a.th := ta_kyV a
        have ht : a.th.isT .tup = false := by cases a <;> rfl
        refine ⟨_, rfl, _, a.th, rfl, hA, _, rfl, eqB (by rw [ht]; rfl) ?_⟩
        refine ⟨_, rfl, _, rfl, a, b, rfl, rfl, hk, .inr ⟨_, rfl, _, _, rfl, rfl, .inl (by decide), _, _, rfl, rfl, ?_⟩⟩
        have e3 : 1 - 2 * (if ahead a b = true then 1 else 0) = sideN a b := by
          unfold sideN
          by_cases h : ahead a b = true
          · rw [if_pos h, if_pos h]; rfl
          · rw [if_neg h, if_neg h, if_neg he]; rfl
        show Q (.int (1 - 2 * (if ahead a b = true then 1 else 0))) H
        rw [e3]
        exact q
    · refine eqB (by rw [e1, decide_eq_false hk]; rfl) ?_
      refine ⟨_, rfl, a, rfl, _, rfl, b, rfl, _, _, rfl, rfl, .inr ⟨_, rfl, _, _, rfl, rfl, .inl (by decide), _, _, rfl, rfl, ?_⟩⟩
      have e3 : 1 - 2 * (if decide (kindN a < kindN b) = true then 1 else 0) = sideN a b := by
        cases a <;> cases b <;> first | rfl | exact absurd rfl hk
      show Q (.int (1 - 2 * (if decide (kindN a < kindN b) = true then 1 else 0))) H
      rw [e3]
      exact q
theorem sc_ahead : FnScope ["one", "other"] ["one", "other"] (defScope s_ahead) := ⟨rfl, rfl, rfl, by decide +kernel, rfl, by decide +kernel, by decide +kernel⟩
theorem c_ahead (T : Txt K mg) : Cal P w K mg base CX0 3 "ahead" ["one", "other"] spAhead := by
  have G := c_side_of (P := P) (w := w) (base := base) T
  refine T.d_ahead.cal (fun f fd F => F.ok sc_ahead (fun vs H Q E h => ?_) (fun cdv A outer s H vs Q E hr h => ?_)) (fun _ _ _ _ _ _ us hl => match us, hl with | [_, _], _ => rfl)
  · obtain ⟨_, _, rfl, _⟩ := h
    rfl
  · obtain ⟨a, b, rfl, q⟩ := h
    refine ⟨_, pss_one (ps_ret (pe_cmpR op_lt (pe_cal G hr pass0 (pa_cons (pv 0) (pa_cons (pv 1) pa_nil))) pe_int (nomark _))), ?_⟩
    refine ⟨_, rfl, _, rfl, a, b, rfl, _, _, rfl, rfl, ?_⟩
    show Q (.bl (decide (sideN a b < 0))) H
    rw [sideN_lt]
    exact q

/-! ### what may be laid -/
def isNum : Th → Bool
  | .int i => decide (-mostNum ≤ i) && decide (i ≤ mostNum)
  | _ => false
theorem isNum_int (i : Int) : isNum (.int i) = (decide (-mostNum ≤ i) && decide (i ≤ mostNum)) := rfl
def spNum : Sp := fun vs H Q _ => ∃ v t, vs = [v] ∧ ThA H v t ∧ Q (.bl (isNum t)) H
theorem sc_num : FnScope ["thing"] ["thing"] (defScope s_is_number) := ⟨rfl, rfl, rfl, by decide +kernel, rfl, by decide +kernel, by decide +kernel⟩
theorem c_is_number (T : Txt K mg) : Cal P w K mg base CX0 1 "is_number" ["thing"] spNum := by
  refine T.d_is_number.cal (fun f fd F => F.ok sc_num (fun vs H Q E h => ?_) (fun cdv A outer s H vs Q E hr h => ?_)) (fun _ _ _ _ _ _ us hl => match us, hl with | [_], _ => rfl)
  · obtain ⟨_, _, rfl, _⟩ := h
    rfl
  · obtain ⟨v, t, rfl, hA, q⟩ := h
    refine ⟨_, pss_one (ps_ret (pe_and (pe_isi .int (pv 0) T.b_isinstance T.b_int bt_int) (pe_and (pe_not (pe_isi .bl (pv 0) T.b_isinstance T.b_bool bt_bl))
      (pe_one (pe_chain op_le op_le (pe_un un_neg (pe_gint T.i_MOST_NUMBER)) (pv 0) (pe_gint T.i_MOST_NUMBER)))))), ?_⟩
    refine ⟨_, rfl, v, t, rfl, hA, _, rfl, ?_⟩
    cases hA with
    | non => exact iteF q
    | str z => exact iteF q
    | tup ht hl => exact iteF q
    | int i =>
      refine iteT ⟨_, rfl, .int i, .int i, rfl, .int i, _, rfl, _, rfl, iteT ?_⟩
      refine ⟨_, rfl, _, rfl, _, _, rfl, rfl, _, rfl, ?_⟩
      by_cases h : -mostNum ≤ i
      · refine eqB (decide_eq_true h) ⟨_, _, rfl, rfl, ?_⟩
        rw [isNum_int, decide_eq_true h, Bool.true_and] at q
        exact q
      · refine neB (decide_eq_false h) ?_
        rw [isNum_int, decide_eq_false h, Bool.false_and] at q
        exact q
/-- a text that is a thing, or no text -/
def spTxt : Sp := fun vs H Q _ => ∃ v t, vs = [v] ∧ ThA H v t ∧ (∀ z, t = .str z → okStr z = true) ∧ Q (.bl (t.isT .str)) H
theorem sc_txt : FnScope ["thing", "sign"] ["thing"] (defScope s_is_text) := ⟨rfl, rfl, rfl, by decide +kernel, rfl, by decide +kernel, by decide +kernel⟩
theorem c_is_text (T : Txt K mg) : Cal P w K mg base CX0 1 "is_text" ["thing"] spTxt := by
  refine T.d_is_text.cal (fun f fd F => F.ok sc_txt (fun vs H Q E h => ?_) (fun cdv A outer s H vs Q E hr h => ?_)) (fun _ _ _ _ _ _ us hl => match us, hl with | [_], _ => rfl)
  · obtain ⟨_, _, rfl, _⟩ := h
    rfl
  · obtain ⟨v, t, rfl, hA, hz, q⟩ := h
    refine ⟨_, pss_cons (ps_if (PW.pt (pw_or (pt_not (pt_val (pe_isi .str (pv 0) T.b_isinstance T.b_str bt_str))) (pw_or1 (pt_cmpR op_gt (pe_callB call_len_str (by rfl) T.b_len PySem.boot_len (pa_cons (pv 0) pa_nil)) (pe_gint T.i_MOST_SIGNS) (nomark _)))))
        (pss_one (ps_ret pe_bl)) pss_nil)
      (pss_cons (ps_for PassesOwn.never rfl (pi_str (pv 0)) (pg_name (i := 1) sc_txt.nd rfl (.inl rfl))
        (pss_one (ps_if (PW.pt (pw_or (pt_not (pt_chain op_le op_le pe_int (pe_callB call_ord (by rfl) T.b_ord PyProof.Rows.boot_ord (pa_cons (pv 1) pa_nil)) pe_int)) (pw_or1 (pt_cmpR op_eq (pe_callB call_ord (by rfl) T.b_ord PyProof.Rows.boot_ord (pa_cons (pv 1) pa_nil)) pe_int (nomark _)))))
          (pss_one (ps_ret pe_bl)) pss_nil)))
      (pss_one (ps_ret pe_bl))), ?_⟩
    cases hA with
    | non => exact ⟨_, rfl, _, .non, rfl, .non, _, rfl, iteT (iteT q)⟩
    | int i => exact ⟨_, rfl, _, .int i, rfl, .int i, _, rfl, iteT (iteT q)⟩
    | tup ht hl => exact ⟨_, rfl, _, _, rfl, .tup ht hl, _, rfl, iteT (iteT q)⟩
    | str z =>
      have hk := hz z rfl
      unfold okStr at hk
      rw [Bool.and_eq_true, decide_eq_true_eq, List.all_eq_true] at hk
      refine ⟨_, rfl, _, .str z, rfl, .str z, _, rfl, iteF ?_⟩
      refine ⟨_, rfl, z, rfl, Nat.le_trans hk.1 (by decide), _, _, rfl, rfl, _, rfl, neB (decide_eq_false (by omega)) ?_⟩
      refine ⟨_, rfl, z, rfl, for_it walk_str (fun i σ H' => ∃ b : Option V, σ = [some (.str z), b] ∧ H' = H) ⟨none, rfl, rfl⟩ (fun _ _ _ _ _ => trivial) ?_ ?_⟩
      · rintro i x σ H1 H2 hi ⟨b, rfl, rfl⟩ ⟨rfl, c, hc, rfl⟩
        have hm : c ∈ z.cps.toList := by
          rw [Array.mem_toList_iff]
          exact Array.mem_of_getElem? hc
        have h3 := hk.2 c hm
        simp only [Bool.and_eq_true, decide_eq_true_eq] at h3
        have eo : (((⟨#[c]⟩ : Str).cps.getD 0 0 : Nat) : Int) = (c : Int) := rfl
        refine ⟨_, rfl, _, rfl, rfl, _, _, rfl, rfl, _, rfl, eqB (decide_eq_true (by rw [eo]; omega)) ⟨_, _, rfl, rfl, _, rfl, neB (b := !decide _) (by rw [eo, decide_eq_true (by omega)]; rfl) ?_⟩⟩
        refine ⟨_, rfl, _, rfl, rfl, rfl, _, rfl, neB ?_ ⟨some (.str ⟨#[c]⟩), rfl, rfl⟩⟩
        rw [eo, dec_int]
        simp
        omega
      · rintro σ H1 ⟨b, rfl, rfl⟩
        exact q
end
end PV
set_option Elab.async false
set_option linter.all false
set_option maxRecDepth 100000
set_option maxHeartbeats 4000000
/-! is_within, is_thing; rank, above; the errors; the vaults. -/
namespace PV
open PySem PySem.Spec PyProof.Rows L2
def spWi : Nat → Sp
  | 0 => fun _ _ _ _ => False
  | d + 1 => fun vs H Q _ => ∃ v t, vs = [v, .int (d : Int)] ∧ ThA H v t ∧ t.within d = true ∧ Q (.bl true) H
theorem spWi_len : ∀ {d : Nat} {vs : List V} {H : Hp} {Q : VK} {E : XK}, spWi d vs H Q E → vs.length = 2
  | d + 1, _, _, _, _, ⟨_, _, rfl, _⟩ => rfl
def spThing : Sp := fun vs H Q _ => ∃ v t, vs = [v] ∧ ThA H v t ∧ t.within 5 = true ∧ Q (.bl true) H
def spRank : Sp := fun vs H Q _ => ∃ k : Ky, vs = [kyV k] ∧ k.okK = true ∧ ∀ H', Same H H' → Q (.int (rank k)) H'
def spAbove : Sp := fun vs H Q _ => ∃ a b : Ky, vs = [kyV a, kyV b] ∧ a.okK = true ∧ b.okK = true ∧ ∀ H', Same H H' → Q (.bl (above a b)) H'
theorem rank_fit {k : Ky} (h : k.okK = true) : (Th.tup [.str rankWord, k.th]).fit = true := by
  have hl := okK_len h
  rw [fit_iff]
  constructor
  · rw [Th.within, Bool.and_eq_true]
    refine ⟨by simp, withinL_of fun a ha => ?_⟩
    simp only [List.mem_cons, List.not_mem_nil, or_false] at ha
    rcases ha with rfl | rfl
    · rw [Th.within]; decide +kernel
    · exact within_mono 0 4 _ (by decide) h
  · have e : (Th.str rankWord).codes.length = 3 := by decide +kernel
    simp only [Th.codes, Th.codesL, List.length_append, List.length_cons, List.length_nil] at e ⊢
    omega
section
variable {P : Program} {w : World} {K : Frag} {mg : Str → Option Value} {base : Heap}
theorem sc_wi : FnScope ["thing", "deep", "part"] ["thing", "deep"] (defScope s_is_within_things) := ⟨rfl, rfl, rfl, by decide +kernel, rfl, by decide +kernel, by decide +kernel⟩
theorem c_is_within (T : Txt K mg) : ∀ d : Nat, Cal P w K mg base CX0 (d + 1) "is_within_things" ["thing", "deep"] (spWi d)
  | 0 => by
    refine T.d_is_within_things.cal (fun f fd F => F.ok sc_wi (fun vs H Q E h => spWi_len h) (fun cdv A outer s H vs Q E hr h => h.elim)) (fun _ _ _ _ _ _ us hl => match us, hl with | [_, _], _ => rfl)
  | d + 1 => by
    have G := c_is_within T d
    have GN := c_is_number (P := P) (w := w) (base := base) T
    have GT := c_is_text (P := P) (w := w) (base := base) T
    refine T.d_is_within_things.cal (fun f fd F => F.ok sc_wi (fun vs H Q E h => spWi_len h) (fun cdv A outer s H vs Q E hr h => ?_)) (fun _ _ _ _ _ _ us hl => match us, hl with | [_, _], _ => rfl)
    obtain ⟨v, t, rfl, hA, hw, q⟩ := h
    have hr1 : Room 1 (A.deeper (envOfC "is_within" (defScope s_is_within_things) s.heap.objs.size f cdv)) := hr.mono (by omega)
    refine ⟨_, pss_cons (ps_if (PW.pt (pw_or (pt_cmpR op_isN (pv 0) pe_non (nomark _)) (pw_or (pt_val (pe_cal GN hr1 pass0 (pa_cons (pv 0) pa_nil))) (pw_or1 (pt_val (pe_cal GT hr1 pass0 (pa_cons (pv 0) pa_nil)))))))
        (pss_one (ps_ret pe_bl)) pss_nil)
      (pss_cons (ps_if (PW.pt (pw_or (pt_not (pt_val (pe_isi .tup (pv 0) T.b_isinstance T.b_tuple bt_tup))) (pw_or (pt_cmpR op_eq (pv 1) pe_int (nomark _)) (pw_or1 (pt_cmpR op_gt (pe_callB call_len_seq (by rfl) T.b_len PySem.boot_len (pa_cons (pv 0) pa_nil)) (pe_gint T.i_MOST_THINGS) (nomark _))))))
        (pss_one (ps_ret pe_bl)) pss_nil)
      (pss_cons (ps_for PassesOwn.never rfl (pi_tup (pv 0)) (pg_name (i := 2) sc_wi.nd rfl (.inl rfl))
        (pss_one (ps_if (pt_not (pt_val (pe_cal G hr pass0 (pa_cons (pv 2) (pa_cons (pe_op op_sub (pv 1) pe_int) pa_nil))))) (pss_one (ps_ret pe_bl)) pss_nil)))
      (pss_one (ps_ret pe_bl)))), ?_⟩
    cases hA with
    | non => exact ⟨_, rfl, rfl, _, rfl, iteT (iteT q)⟩
    | int i =>
      have hn : isNum (.int i) = true := by rw [Th.within] at hw; rw [isNum_int]; exact hw
      refine ⟨_, rfl, rfl, _, rfl, iteF ?_⟩
      exact ⟨_, rfl, _, .int i, rfl, .int i, _, rfl, eqB hn (iteT q)⟩
    | str z =>
      have hn : isNum (.str z) = false := rfl
      refine ⟨_, rfl, rfl, _, rfl, iteF ?_⟩
      refine ⟨_, rfl, _, .str z, rfl, .str z, _, rfl, neB hn ?_⟩
      refine ⟨_, rfl, _, .str z, rfl, .str z, fun z' e => ?_, _, rfl, iteT q⟩
      cases e
      rw [Th.within] at hw
      exact hw
    | @tup a xs l ht hl =>
      obtain ⟨d', rfl⟩ : ∃ d', d = d' + 1 := by
        cases d with
        | zero => simp [Th.within] at hw
        | succ d' => exact ⟨d', rfl⟩
      rw [Th.within, Bool.and_eq_true, decide_eq_true_eq] at hw
      have hxl := hl.len
      have tA : ThA H (.ref a) (.tup l) := .tup ht hl
      refine ⟨_, rfl, rfl, _, rfl, iteF ?_⟩
      refine ⟨_, rfl, _, _, rfl, tA, _, rfl, neB (b := isNum (.tup l)) rfl ?_⟩
      refine ⟨_, rfl, _, _, rfl, tA, (fun z e => nomatch e), _, rfl, iteF ?_⟩
      refine ⟨_, rfl, _, _, rfl, tA, _, rfl, iteF ?_⟩
      refine ⟨_, rfl, rfl, _, rfl, neB ?_ ?_⟩
      · rw [dec_int]; simp; omega
      refine ⟨_, rfl, a, xs, rfl, .inr (SqT.of ht), _, _, rfl, rfl, _, rfl, neB (decide_eq_false (by omega)) ?_⟩
      refine ⟨_, rfl, a, rfl, ⟨xs, SqT.of ht⟩, for_it (walk_tup (xs := xs)) (fun i σ H' => ∃ b : Option V, σ = [some (.ref a), some (.int ((d' + 1 : Nat) : Int)), b] ∧ H' = H) ⟨none, rfl, rfl⟩ (fun i σ H' _ ⟨_, _, e⟩ => by rw [e]; exact SqT.of ht) ?_ ?_⟩
      · rintro i x σ H1 H2 hi ⟨b, rfl, rfl⟩ ⟨rfl, hx⟩
        obtain ⟨t', ht', hA'⟩ := hl.at_ hx
        have ed : ((d' + 1 : Nat) : Int) - 1 = (d' : Int) := by omega
        refine ⟨_, rfl, _, rfl, _, _, rfl, rfl, x, t', ?_, hA', withinL_mem hw.2 _ (List.mem_of_getElem? ht'), _, rfl, iteF ⟨some x, rfl, rfl⟩⟩
        show [x, V.int (((d' + 1 : Nat) : Int) - 1)] = [x, V.int (d' : Int)]
        rw [ed]
      · rintro σ H1 ⟨b, rfl, rfl⟩
        exact q
theorem sc_th : FnScope ["thing"] ["thing"] (defScope s_is_thing) := ⟨rfl, rfl, rfl, by decide +kernel, rfl, by decide +kernel, by decide +kernel⟩
theorem c_is_thing (T : Txt K mg) : Cal P w K mg base CX0 8 "is_thing" ["thing"] spThing := by
  have G := c_is_within (P := P) (w := w) (base := base) T 6
  refine T.d_is_thing.cal (fun f fd F => F.ok sc_th (fun vs H Q E h => ?_) (fun cdv A outer s H vs Q E hr h => ?_)) (fun _ _ _ _ _ _ us hl => match us, hl with | [_], _ => rfl)
  · obtain ⟨_, _, rfl, _⟩ := h
    rfl
  · obtain ⟨v, t, rfl, hA, hw, q⟩ := h
    exact ⟨_, pss_one (ps_ret (pe_cal G hr pass0 (pa_cons (pv 0) (pa_cons (pe_gint T.i_DEEPEST) pa_nil)))), _, rfl, v, t, rfl, hA, hw, q⟩
theorem sc_rank : FnScope ["key"] ["key"] (defScope s_rank) := ⟨rfl, rfl, rfl, by decide +kernel, rfl, by decide +kernel, by decide +kernel⟩
theorem c_rank (T : Txt K mg) : Cal P w K mg base CX0 9 "rank" ["key"] spRank := by
  have G := c_seal (P := P) (w := w) (base := base) T
  refine T.d_rank.cal (fun f fd F => F.ok sc_rank (fun vs H Q E h => ?_) (fun cdv A outer s H vs Q E hr h => ?_)) (fun _ _ _ _ _ _ us hl => match us, hl with | [_], _ => rfl)
  · obtain ⟨_, rfl, _⟩ := h
    rfl
  · obtain ⟨k, rfl, hk, q⟩ := h
    refine ⟨_, pss_one (ps_ret (pe_cal G hr pass0 (pa_cons (pe_tup (pa_cons pe_str (pa_cons (pv 0) pa_nil))) pa_nil))), ?_⟩
    refine ⟨_, rfl, (by show 2 ≤ sizeLine; decide), fun p hp => ?_⟩
    have s1 := same_upd (o := .tup [V.str rankWord, kyV k]) (Same.refl H) hp
    exact ⟨_, _, rfl, .tup upd_same (.cons (.str rankWord) (.cons ((ta_kyV k).mono (TK.of s1)) .nil)), rank_fit hk, fun H2 s2 => q H2 (s1.trans s2)⟩
theorem sc_above : FnScope ["key", "other", "own", "its"] ["key", "other"] (defScope s_above) := ⟨rfl, rfl, rfl, by decide +kernel, rfl, by decide +kernel, by decide +kernel⟩
theorem c_above (T : Txt K mg) : Cal P w K mg base CX0 10 "above" ["key", "other"] spAbove := by
  have G := c_rank (P := P) (w := w) (base := base) T
  have GA := c_ahead (P := P) (w := w) (base := base) T
  refine T.d_above.cal (fun f fd F => F.ok sc_above (fun vs H Q E h => ?_) (fun cdv A outer s H vs Q E hr h => ?_)) (fun _ _ _ _ _ _ us hl => match us, hl with | [_, _], _ => rfl)
  · obtain ⟨_, _, rfl, _⟩ := h
    rfl
  · obtain ⟨a, b, rfl, ha, hb, q⟩ := h
    have hr3 : Room 3 (A.deeper (envOfC "above" (defScope s_above) s.heap.objs.size f cdv)) := hr.mono (by decide)
    refine ⟨_, pss_cons (ps_set (i := 2) sc_above.nd rfl (.inl rfl) (pe_cal G hr pass0 (pa_cons (pv 0) pa_nil)))
      (pss_cons (ps_set (i := 3) sc_above.nd rfl (.inl rfl) (pe_cal G hr pass0 (pa_cons (pv 1) pa_nil)))
      (pss_one (ps_ret (pe_or (pe_cmpR op_gt (pv 2) (pv 3) (nomark _)) (pe_one (pe_and (pe_cmpR op_eq (pv 2) (pv 3) (nomark _)) (pe_one (pe_cal GA hr3 pass0 (pa_cons (pv 0) (pa_cons (pv 1) pa_nil)))))))))), ?_⟩
    refine ⟨_, rfl, a, rfl, ha, fun H1 s1 => ⟨_, rfl, b, rfl, hb, fun H2 s2 => ?_⟩⟩
    have q2 := q H2 (s1.trans s2)
    unfold above at q2
    refine ⟨_, rfl, _, rfl, _, _, rfl, rfl, _, rfl, ?_⟩
    by_cases h : rank a > rank b
    · refine eqB (decide_eq_true h) ?_
      rw [decide_eq_true h, Bool.true_or] at q2
      exact q2
    · refine neB (decide_eq_false h) ⟨_, rfl, _, rfl, rfl, _, rfl, ?_⟩
      rw [decide_eq_false h, Bool.false_or] at q2
      by_cases e : rank a = rank b
      · refine eqB (by rw [dec_int]; simp [e]) ⟨_, rfl, _, rfl, a, b, rfl, ?_⟩
        rw [decide_eq_true e, Bool.true_and] at q2
        exact q2
      · refine neB (by rw [dec_int]; simp [e]) ?_
        rw [decide_eq_false e, Bool.false_and] at q2
        exact q2
end
end PV
set_option Elab.async false
set_option linter.all false
set_option maxRecDepth 100000
set_option maxHeartbeats 4000000
/-! Vaults: tables in the heap, what is kept, promises by runs; Clash, Vault. -/
namespace PV
open PySem PySem.Spec PyProof.Rows L2
/-- a dict of things by numbers -/
def KD (H : Hp) : List (Key × V) → Mp → Prop := Paired fun p q => p.1 = .inl q.1 ∧ ThA H p.2 q.2
theorem KD.mono {H H' : Hp} (k : TK H H') : ∀ {kvs : List (Key × V)} {m : Mp}, KD H kvs m → KD H' kvs m
  | _, _, .nil => .nil
  | _, _, .cons h r => .cons ⟨h.1, h.2.mono k⟩ (KD.mono k r)
theorem KD.len {H : Hp} {kvs : List (Key × V)} {m : Mp} (r : KD H kvs m) : kvs.length = m.length := Paired.length r
theorem KD.val {H : Hp} {n : Int} : ∀ {kvs : List (Key × V)} {m : Mp}, KD H kvs m → (valV kvs (.inl n) = none ∧ lk m n = none) ∨ ∃ v t, valV kvs (.inl n) = some v ∧ lk m n = some t ∧ ThA H v t
  | _, _, .nil => .inl ⟨rfl, rfl⟩
  | _, _, @Paired.cons _ _ _ p q ps qs h r => by
    by_cases e : q.1 = n
    · refine .inr ⟨p.2, q.2, valV_pos (by rw [h.1, e]), ?_, h.2⟩
      rw [lk_cons, if_pos e]
    · have e2 : ¬ p.1 = (.inl n : Key) := fun z => e (by rw [h.1] at z; exact Sum.inl.inj z)
      rw [valV_neg e2, lk_cons, if_neg e]
      exact KD.val r
theorem KD.rep {H : Hp} {n : Int} {v : V} {t : Th} (ha : ThA H v t) : ∀ {kvs : List (Key × V)} {m : Mp}, KD H kvs m → KD H (kvs.map fun kv => if kv.1 = (.inl n : Key) then (kv.1, v) else kv) (rp m n t)
  | _, _, .nil => .nil
  | _, _, @Paired.cons _ _ _ p q ps qs h r => by
    rw [List.map_cons]
    unfold rp
    refine .cons ?_ (KD.rep ha r)
    by_cases e : q.1 = n
    · rw [if_pos e, if_pos (by rw [h.1, e])]
      exact ⟨h.1, ha⟩
    · rw [if_neg e, if_neg (fun z => e (by rw [h.1] at z; exact Sum.inl.inj z))]
      exact h
theorem KD.put {H : Hp} {n : Int} {v : V} {t : Th} (ha : ThA H v t) {kvs : List (Key × V)} {m : Mp} (r : KD H kvs m) : KD H (putK kvs (.inl n) v) (pt m n t) := by
  unfold putK pt
  rw [valV_any]
  rcases r.val (n := n) with ⟨e1, e2⟩ | ⟨_, _, e1, e2, _⟩
  · rw [e1, e2, if_neg (by decide), if_neg (by decide)]
    exact Paired.snoc r ⟨rfl, ha⟩
  · rw [e1, e2, Option.isSome_some, Option.isSome_some, if_pos rfl, if_pos rfl]
    exact r.rep ha
theorem KD.map {H : Hp} : ∀ {kvs : List (Key × V)} {m : Mp}, KD H kvs m → kvs.map (·.1) = m.map fun p => (.inl p.1 : Key)
  | _, _, .nil => rfl
  | _, _, .cons h r => by rw [List.map_cons, List.map_cons, h.1, KD.map r]

theorem Room_u1 {k : Nat} {A : Around} (r : Room k A) : A.units + 1 < cLine := by have := r.units; omega
/-! ### Clash -/
section
variable {X : Cx} {e : Expr} {es : List Expr} {ta : TA} {x : Str} {p1 p2 pos : Pos}
theorem pe_vinit {C0 : Addr} {pl : Sem Bool} (r : ClsFn X.K C0 "__init__" (.builtin "ValueError.__init__")) (hm : X.mg x = some (.ref C0)) (ha : PA X (e :: es) ta) (hg : Gl X x := by rfl) (hdb : (x == ("__debug__" : Str)) = false := by decide)
    (hc : eval (.Call (.Attribute (.Name x p1) "__init__" p2) (e :: es) [] pos) X.env = (do
      let ov ← eval (.Name x p1) X.env
      standAt p2.atName
      let (f, first) ← holding [ov] (getMethod ov "__init__" pl)
      callWith pos f first (backTo pos (starEach (e :: es) X.env)) (backToKw pos (keywordEach [] X.env))) := by rfl)
    (he : starEach (e :: es) X.env = (false, eval e X.env) :: starEach es X.env := by rfl) (hpl : (backTo pos (starEach es X.env)).any (·.1) = false := by rfl) :
    PE X (.Call (.Attribute (.Name x p1) "__init__" p2) (e :: es) [] pos) (tVeI X.K ta) := by
  refine ⟨fun pins s σ H Q I h => ?_⟩
  refine PySem.W.methodCall_KW (ld_glob I hg hm ?_ hdb) hc
  refine PySem.W.method_cls I.kIn r.ga (PySem.W.cls_value I.kIn r.rd r.at_ r.hd ?_)
  show wpAny _ _ (callWith pos (Value.builtin "ValueError.__init__") [] (backTo pos (starEach (e :: es) X.env)) []) _ _ _
  refine PyProof.Rows.callWith_method1 (thn (ha.run pos pins _ σ H _ (I.tok _) h) fun us s1 hh => ?_) he hpl
  obtain ⟨vs, H1, I1, r1, a, C, ws, ev, hl, To, ea, q⟩ := hh
  subst ev
  cases r1 with
  | @cons _ u0 _ ur ra rw' =>
    obtain rfl : u0 = Value.ref a := ra
    have hlen : ur.length ≤ sizeLine := by
      rw [← Paired.length rw', sizeLine_eq]
      omega
    exact oinit_ok To I1 ea hlen fun s' J => ⟨.non, H1, J, rfl, q⟩
end
/-- Clash.__init__ -/
def spCl (K : Frag) : Sp := fun vs H Q _ => ∃ (a : Addr) (x y : V), vs = [.ref a, x, y] ∧ H a = some (exo a (He.ga K "Clash") none) ∧
  ∀ dx, H dx = none → dx ≠ a → Q .non (upd (upd (upd H dx (exd dx [("one", x)])) a (exo a (He.ga K "Clash") (some dx))) dx (exd dx [("other", y), ("one", x)]))
section
variable {P : Program} {w : World} {K : Frag} {mg : Str → Option Value} {base : Heap}
theorem sc_ci : FnScope ["self", "one", "other"] ["self", "one", "other"] (defScope s_Clash_init) := ⟨rfl, rfl, rfl, by decide +kernel, rfl, by decide +kernel, by decide +kernel⟩
theorem c_clash (T : Txt K mg) : ∃ f fd, PySem.W.findIn K (.ref (He.ga K "Clash")) "__init__" = some (some (.ref f)) ∧ PySem.W.typeIn K (.ref f) = some (.type "function") ∧ FnOk P w K mg base CX0 1 f fd ["self", "one", "other"] (spCl K) ∧ Binds K fd ["self", "one", "other"] [] := by
  obtain ⟨f, fd, h1, h2, F⟩ := T.k_Clash
  refine ⟨f, fd, h1, h2, F.ok sc_ci (fun vs H Q E h => ?_) (fun cdv A outer s H vs Q E hr h => ?_), F.binds (fun _ _ _ _ _ _ us hl => match us, hl with | [_, _, _], _ => rfl)⟩
  · obtain ⟨_, _, _, rfl, _⟩ := h
    rfl
  · obtain ⟨a, x, y, rfl, ea, q⟩ := h
    refine ⟨_, pss_cons (ps_expr (pe_vinit T.f_VaultError T.g_VaultError (pa_cons (pv 0) (pa_cons pe_str pa_nil))))
      (pss_cons (ps_ost (pv 0) (pv 1)) (pss_one (ps_ost (pv 0) (pv 2)))), ?_⟩
    refine ⟨_, rfl, a, _, _, rfl, (by decide), T.x_Clash, ea, ?_⟩
    refine ⟨_, rfl, _, rfl, a, _, rfl, T.x_Clash, T.n_Clash_one, .inl ⟨ea, fun dx hd hne => ?_⟩⟩
    refine ⟨_, rfl, _, rfl, a, _, rfl, T.x_Clash, T.n_Clash_other, .inr ⟨dx, _, upd_same, ?_, (by show 1 ≤ 900; decide), q dx hd hne⟩⟩
    rw [upd_ne hne, upd_same]
/-- Clash(x, y) -/
theorem mk_clash {x y : V} {H : Hp} {Q : XK} (h : ∀ H' d, Same H H' → H' d = some (.xd [("other", y), ("one", x)]) → Q (.ref (He.ga K "Clash")) (some d) H') :
    [x, y].length ≤ 1000 ∧ ∀ a, H a = none → spCl K (.ref a :: ([x, y] ++ [])) (upd H a (exo a (He.ga K "Clash") none))
      (fun v H2 => v = .non ∧ ∃ (d : Addr) (fs : List (Str × V)), H2 a = some (exo a (He.ga K "Clash") (some d)) ∧ H2 d = some (exd d fs) ∧ H d = none ∧ Q (.ref (He.ga K "Clash")) (some d) (upd (del H2 a) d (.xd fs))) (fun _ _ _ => False) := by
  refine ⟨(by show 2 ≤ 1000; decide), fun a ha => ⟨a, x, y, rfl, upd_same, fun dx hd hne => ⟨rfl, dx, _, ?_, upd_same, ?_, h _ dx (fun b o e => ?_) upd_same⟩⟩⟩
  · rw [upd_ne hne.symm, upd_same]
  · rw [upd_ne hne] at hd
    exact hd
  · have hd' : H dx = none := by rw [upd_ne hne] at hd; exact hd
    have e1 : b ≠ dx := ne_of_none e hd'
    have e2 : b ≠ a := ne_of_none e ha
    rw [upd_ne e1, del_ne e2, upd_ne e1, upd_ne e2, upd_ne e1, upd_ne e2]
    exact e
end
end PV
set_option Elab.async false
set_option linter.all false
set_option maxRecDepth 100000
set_option maxHeartbeats 4000000
/-! Vaults: what stands at their places, promises by runs, their methods. -/
namespace PV
open PySem PySem.Spec PyProof.Rows L2
/-- the vault v has its dict by_seal at d -/
def Has (K : Frag) (H : Hp) (v d : Addr) : Prop := ∃ C dx fs, H v = some (.ins C dx fs) ∧ Cls K C ∧ NoAttr K C "by_seal" ∧ fs.lookup ("by_seal" : Str) = some (.ref d)
def DAt (H : Hp) (d : Addr) (m : Mp) : Prop := ∃ kvs, H d = some (.dK kvs) ∧ KD H kvs m
/-- all is kept but the dicts at d and e -/
def Fr (d e : Addr) (H H' : Hp) : Prop := ∀ a o, a ≠ d → a ≠ e → H a = some o → H' a = some o
theorem Fr.refl (d e : Addr) (H : Hp) : Fr d e H H := fun _ _ _ _ h => h
theorem Fr.trans {d e : Addr} {H H1 H2 : Hp} (a : Fr d e H H1) (b : Fr d e H1 H2) : Fr d e H H2 := fun x o h1 h2 h => b x o h1 h2 (a x o h1 h2 h)
theorem Fr.of {d e : Addr} {H H' : Hp} (s : Same H H') : Fr d e H H' := fun a o _ _ h => s a o h
theorem Fr.left {d e : Addr} {H H' : Hp} (s : Fr d d H H') : Fr d e H H' := fun a o h _ => s a o h h
theorem Fr.right {d e : Addr} {H H' : Hp} (s : Fr e e H H') : Fr d e H H' := fun a o _ h => s a o h h
theorem Fr.upd {d e : Addr} {H : Hp} {o : HO} : Fr d e H (upd H d o) := fun a u h _ q => by rw [upd_ne h]; exact q
theorem DAt.same {H H' : Hp} {d : Addr} {m : Mp} (h : DAt H d m) (s : Same H H') : DAt H' d m := by
  obtain ⟨kvs, h1, h2⟩ := h
  exact ⟨kvs, s _ _ h1, h2.mono (TK.of s)⟩
theorem DAt.ne {H : Hp} {d a : Addr} {m : Mp} {o : HO} (h : DAt H d m) (e : H a = some o) (q : ∀ kvs, o ≠ .dK kvs) : a ≠ d := fun z => by
  obtain ⟨kvs, h1, _⟩ := h
  rw [z, h1] at e
  exact q kvs (Option.some.inj e).symm
theorem Fr.tk {d e : Addr} {H H' : Hp} {m m' : Mp} (f : Fr d e H H') (hd : DAt H d m) (he : DAt H e m') : TK H H' := fun a xs h => f a _ (hd.ne h (fun _ z => nomatch z)) (he.ne h (fun _ z => nomatch z)) h
theorem DAt.fr {H H' : Hp} {d e x : Addr} {m m1 m2 : Mp} (h : DAt H x m) (f : Fr d e H H') (h1 : DAt H d m1) (h2 : DAt H e m2) (n1 : x ≠ d) (n2 : x ≠ e) : DAt H' x m := by
  obtain ⟨kvs, q1, q2⟩ := h
  exact ⟨kvs, f _ _ n1 n2 q1, q2.mono (f.tk h1 h2)⟩
structure PAt (K : Frag) (H : Hp) (v d e : Addr) (st : VS) : Prop where
  ins : ∃ C dx, (C = He.ga K "Keeper" ∨ C = He.ga K "Witness") ∧ H v = some (.ins C dx [("by_seal", .ref d)])
  ed : e = d
  own : DAt H d st.own
  below : st.below = []
  noted : st.noted = []
  ok : st.Ok
  agr : st.Agr
structure RAt (K : Frag) (H : Hp) (v d e : Addr) (st : VS) : Prop where
  ins : ∃ dx b dxb db, H v = some (.ins (He.ga K "Reader") dx [("by_seal", .ref d), ("beneath", .ref b), ("noted", .ref e)]) ∧ H b = some (.ins (He.ga K "Keeper") dxb [("by_seal", .ref db)]) ∧ DAt H db st.below ∧ db ≠ d ∧ db ≠ e
  ne : d ≠ e
  own : DAt H d st.own
  noted : DAt H e st.noted
  ok : st.Ok
  agr : st.Agr
def VAt (K : Frag) (H : Hp) (v d e : Addr) (st : VS) : Prop := PAt K H v d e st ∨ RAt K H v d e st
section
variable {K : Frag} {H H' : Hp} {v d e : Addr} {st : VS}
theorem PAt.same (h : PAt K H v d e st) (s : Same H H') : PAt K H' v d e st := by
  obtain ⟨C, dx, hC, hv⟩ := h.ins
  exact ⟨⟨C, dx, hC, s _ _ hv⟩, h.ed, h.own.same s, h.below, h.noted, h.ok, h.agr⟩
theorem RAt.same (h : RAt K H v d e st) (s : Same H H') : RAt K H' v d e st := by
  obtain ⟨dx, b, dxb, db, h1, h2, h3, h4, h5⟩ := h.ins
  exact ⟨⟨dx, b, dxb, db, s _ _ h1, s _ _ h2, h3.same s, h4, h5⟩, h.ne, h.own.same s, h.noted.same s, h.ok, h.agr⟩
theorem VAt.same (h : VAt K H v d e st) (s : Same H H') : VAt K H' v d e st := h.imp (·.same s) (·.same s)
theorem VAt.ok (h : VAt K H v d e st) : st.Ok := h.elim (·.ok) (·.ok)
theorem VAt.agr (h : VAt K H v d e st) : st.Agr := h.elim (·.agr) (·.agr)
theorem VAt.dd (h : VAt K H v d e st) : ∃ m1 m2, DAt H d m1 ∧ DAt H e m2 := by
  rcases h with h | h
  · exact ⟨_, _, h.own, by rw [h.ed]; exact h.own⟩
  · exact ⟨_, _, h.own, h.noted⟩
theorem VAt.tk (h : VAt K H v d e st) (f : Fr d e H H') : TK H H' := by
  obtain ⟨m1, m2, h1, h2⟩ := h.dd
  exact f.tk h1 h2
/-- what is no dict is kept -/
theorem VAt.keep (h : VAt K H v d e st) (f : Fr d e H H') {a : Addr} {o : HO} (q : H a = some o) (n : ∀ kvs, o ≠ .dK kvs) : H' a = some o := by
  obtain ⟨m1, m2, h1, h2⟩ := h.dd
  exact f a o (h1.ne q n) (h2.ne q n) q
/-- a call that runs p over the vault -/
def SpP {α : Type} (K : Frag) (p : Prog α) (R : Hp → V → α → Prop) (v d e : Addr) (st : VS) (H : Hp) (Q : VK) (E : XK) : Prop :=
  wpr p st (fun a st' => ∀ H' u, Fr d e H H' → VAt K H' v d e st' → R H' u a → Q u H') (∀ H', Fr d e H H' → E (.ref (He.ga K "NoPaper")) none H')
    fun x y => ∀ H' dd vx vy, Fr d e H H' → H' dd = some (.xd [("other", vy), ("one", vx)]) → ThA H' vx x → ThA H' vy y → E (.ref (He.ga K "Clash")) (some dd) H'
theorem SpP.mono {α : Type} {p : Prog α} {R R' : Hp → V → α → Prop} {Q Q' : VK} {E : XK} {H1 : Hp} (h : SpP K p R v d e st H Q E) (f : Fr d e H H1) (k : ∀ H' u a, Fr d e H1 H' → R' H' u a → (R H' u a → Q u H') → Q' u H') : SpP K p R' v d e st H1 Q' E :=
  wp_mono h (fun a st' q H' u f2 V r => k H' u a f2 r fun r2 => q H' u (f.trans f2) V r2) (fun q H' f2 => q H' (f.trans f2)) fun x y q H' dd vx vy f2 => q H' dd vx vy (f.trans f2)
theorem SpP.fr {α : Type} {p : Prog α} {R : Hp → V → α → Prop} {Q : VK} {E : XK} {H1 : Hp} (h : SpP K p R v d e st H Q E) (f : Fr d e H H1) : SpP K p R v d e st H1 Q E := h.mono f fun _ _ _ _ r k => k r
/-- the first part of a run, and what is behind it -/
theorem SpP.bind {α β : Type} {p : Prog α} {g : α → Prog β} {R : Hp → V → β → Prop} {R' : Hp → V → α → Prop} {Q Q1 : VK} {E : XK} (h : SpP K (p.bind g) R v d e st H Q E)
    (k : ∀ a st1 u H1, Fr d e H H1 → VAt K H1 v d e st1 → R' H1 u a → SpP K (g a) R v d e st1 H1 Q E → Q1 u H1) : SpP K p R' v d e st H Q1 E := by
  unfold SpP at h
  rw [wp_bind] at h
  exact wp_mono h (fun a st1 q H1 u f V r => k a st1 u H1 f V r (SpP.fr (H := H) q f)) id fun _ _ z => z
theorem SpP.ret {α : Type} {a : α} {R : Hp → V → α → Prop} {Q : VK} {E : XK} (h : SpP K (.ret a) R v d e st H Q E) (hv : VAt K H v d e st) {u : V} (r : R H u a) : Q u H := h H u (Fr.refl d e H) hv r
theorem SpP.bad {α : Type} {R : Hp → V → α → Prop} {Q : VK} {E : XK} (h : SpP K (.bad : Prog α) R v d e st H Q E) : False := h
end
/-! ### Vault's methods -/
def spVT (K : Frag) : Sp := fun vs H Q E => ∃ v d n m, vs = [.ref v, .int n] ∧ Has K H v d ∧ DAt H d m ∧ (∀ t u, lk m n = some t → ThA H u t → Q u H) ∧ (lk m n = none → E (.ref (He.ga K "NoPaper")) none H)
def spVH (K : Frag) : Sp := fun vs H Q _ => ∃ v d n m, vs = [.ref v, .int n] ∧ Has K H v d ∧ DAt H d m ∧ Q (.bl (lk m n).isSome) H
def spVL (K : Frag) : Sp := fun vs H Q E => ∃ v d u t m, vs = [.ref v, u] ∧ Has K H v d ∧ DAt H d m ∧ ThA H u t ∧ t.fit = true ∧ (∀ x, lk m (sealOf t) = some x → x.fit = true) ∧
  (∀ x, lk m (sealOf t) = some x → x ≠ t → ∀ H' dd vx vy, Same H H' → H' dd = some (.xd [("other", vy), ("one", vx)]) → ThA H' vx x → ThA H' vy t → E (.ref (He.ga K "Clash")) (some dd) H') ∧
  ((∀ x, lk m (sealOf t) = some x → x = t) → m.length < cap ∧ ∀ H', Fr d d H H' → DAt H' d (pt m (sealOf t) t) → Q (.int (sealOf t)) H')
def spVI (K : Frag) : Sp := fun vs H Q _ => ∃ v C dx, vs = [.ref v] ∧ H v = some (.ins C dx []) ∧ Cls K C ∧ NoAttr K C "by_seal" ∧ ∀ p, H p = none → Q .non (upd (upd H p (.dK [])) v (.ins C dx [("by_seal", .ref p)]))
theorem shape_fit {t : Th} (h : t.fit = true) : SeqAt.shaped t.data = true := shaped_of (by decide) (fit_iff.mp h).1
theorem lk_DGet {H : Hp} {d : Addr} {m : Mp} (h : DAt H d m) (n : Int) : (DGet H d (.int n) none ∧ lk m n = none) ∨ ∃ v t, DGet H d (.int n) (some v) ∧ lk m n = some t ∧ ThA H v t := by
  obtain ⟨kvs, h1, h2⟩ := h
  rcases h2.val (n := n) with ⟨e1, e2⟩ | ⟨v, t, e1, e2, e3⟩
  · refine .inl ⟨?_, e2⟩
    rw [← e1]
    exact DGet.k (k := .inl n) h1
  · refine .inr ⟨v, t, ?_, e2, e3⟩
    rw [← e1]
    exact DGet.k (k := .inl n) h1
theorem cap_size : cap ≤ sizeLine := by decide
section
variable {P : Program} {w : World} {K : Frag} {mg : Str → Option Value} {base : Heap}
theorem sc_vi : FnScope ["self"] ["self"] (defScope s_Vault_init) := ⟨rfl, rfl, rfl, by decide +kernel, rfl, by decide +kernel, by decide +kernel⟩
theorem sc_vt : FnScope ["self", "number"] ["self", "number"] (defScope s_Vault_thing) := ⟨rfl, rfl, rfl, by decide +kernel, rfl, by decide +kernel, by decide +kernel⟩
theorem sc_vh : FnScope ["self", "number"] ["self", "number"] (defScope s_Vault_has) := ⟨rfl, rfl, rfl, by decide +kernel, rfl, by decide +kernel, by decide +kernel⟩
theorem sc_vl : FnScope ["self", "new", "number"] ["self", "new"] (defScope s_Vault_lay) := ⟨rfl, rfl, rfl, by decide +kernel, rfl, by decide +kernel, by decide +kernel⟩
theorem f_vi (T : Txt K mg) (f : Addr) (fd : FuncData) (F : Fun K "__init__" "Vault.__init__" s_Vault_init f fd) : FnOk P w K mg base CX0 1 f fd ["self"] (spVI K) := by
  refine F.ok sc_vi (fun vs H Q E h => ?_) (fun cdv A outer s H vs Q E hr h => ?_)
  · obtain ⟨_, _, _, rfl, _⟩ := h
    rfl
  · obtain ⟨v, C, dx, rfl, hv, cC, nC, q⟩ := h
    refine ⟨_, pss_one (ps_fld (pv 0) pe_dnewK rfl), fun p hp => ?_⟩
    exact ⟨_, rfl, v, C, dx, [], rfl, by rw [upd_ne (ne_of_none hv hp)]; exact hv, cC, nC, by decide, q p hp⟩
theorem f_vh (T : Txt K mg) (f : Addr) (fd : FuncData) (F : Fun K "has" "Vault.has" s_Vault_has f fd) : FnOk P w K mg base CX0 1 f fd ["self", "number"] (spVH K) := by
  refine F.ok sc_vh (fun vs H Q E h => ?_) (fun cdv A outer s H vs Q E hr h => ?_)
  · obtain ⟨_, _, _, _, rfl, _⟩ := h
    rfl
  · obtain ⟨v, d, n, m, rfl, ⟨C, dx, fs, hv, cC, nC, hl⟩, hd, q⟩ := h
    refine ⟨_, pss_one (ps_ret (pe_cmp (pc_din (Room_u1 hr) (pv 1) (pe_fld (pv 0) rfl)))), ?_⟩
    refine ⟨_, rfl, _, rfl, v, C, dx, fs, _, rfl, hv, cC, nC, hl, ?_⟩
    rcases lk_DGet hd n with ⟨g, e⟩ | ⟨x, t, g, e, _⟩
    · refine ⟨d, _, rfl, g, ?_⟩
      rw [e] at q
      exact q
    · refine ⟨d, _, rfl, g, ?_⟩
      rw [e] at q
      exact q
theorem f_vt (T : Txt K mg) (f : Addr) (fd : FuncData) (F : Fun K "thing" "Vault.thing" s_Vault_thing f fd) : FnOk P w K mg base (L2.CX P w) 1 f fd ["self", "number"] (spVT K) := by
  refine F.okX sc_vt (fun vs H Q E h => ?_) (fun cdv A outer s H vs Q E hr h => ?_)
  · obtain ⟨_, _, _, _, rfl, _⟩ := h
    rfl
  · obtain ⟨v, d, n, m, rfl, ⟨C, dx, fs, hv, cC, nC, hl⟩, hd, q, qn⟩ := h
    refine ⟨_, pss_cons (ps_if (pt_cmp (pc_dnotin (Room_u1 hr) (pv 1) (pe_fld (pv 0) rfl))) (pss_one (ps_raise rfl (takes_of rfl rfl rfl rfl) (pmk_own PySem.F.excBase_ValueError T.x_NoPaper T.g_NoPaper T.kp_NoPaper (raises_own T.sb_NoPaper T.ty_NoPaper) rfl))) pss_nil)
      (pss_one (ps_ret (pe_dget (Room_u1 hr) (pe_fld (pv 0) rfl) (pv 1) (fun _ _ => rfl)))), ?_⟩
    refine ⟨_, rfl, _, rfl, v, C, dx, fs, _, rfl, hv, cC, nC, hl, ?_⟩
    rcases lk_DGet hd n with ⟨g, e⟩ | ⟨x, t, g, e, ha⟩
    · exact ⟨d, _, rfl, g, _, rfl, iteT (qn e)⟩
    · refine ⟨d, _, rfl, g, _, rfl, iteF ?_⟩
      exact ⟨_, rfl, v, C, dx, fs, _, rfl, hv, cC, nC, hl, _, rfl, d, x, rfl, g, q t x e ha⟩
theorem f_vl (T : Txt K mg) (f : Addr) (fd : FuncData) (F : Fun K "lay" "Vault.lay" s_Vault_lay f fd) : FnOk P w K mg base (L2.CX P w) 9 f fd ["self", "new"] (spVL K) := by
  have G := c_seal (P := P) (w := w) (base := base) T
  obtain ⟨fI, fdI, iC, tI, FI, bI⟩ := c_clash (P := P) (w := w) (base := base) T
  refine F.okX sc_vl (fun vs H Q E h => ?_) (fun cdv A outer s H vs Q E hr h => ?_)
  · obtain ⟨_, _, _, _, _, rfl, _⟩ := h
    rfl
  · obtain ⟨v, d, u, t, m, rfl, ⟨C, dx, fs, hv, cC, nC, hl⟩, hd, ha, hf, hfx, qc, q⟩ := h
    refine ⟨_, pss_cons (ps_set (i := 2) sc_vl.nd rfl (.inl rfl) (pe_cal G hr pass0 (pa_cons (pv 1) pa_nil)))
      (pss_cons (ps_if (PW.pt (pw_and (pt_cmp (pc_din (Room_u1 hr) (pv 2) (pe_fld (pv 0) rfl))) (pw_and1 (pt_cmpR (op_neD hr.units) (pe_dget (Room_u1 hr) (pe_fld (pv 0) rfl) (pv 2) (fun _ _ => rfl)) (pv 1) (nomark _)))))
        (pss_one (ps_raise rfl (takes_of rfl rfl rfl rfl) (pmk_oex T.x_Clash iC tI FI (hr.mono (by decide)) bI .nil pass0 rfl T.g_Clash (pa_cons (pe_dget (Room_u1 hr) (pe_fld (pv 0) rfl) (pv 2) (fun _ _ => rfl)) (pa_cons (pv 1) pa_nil))))) pss_nil)
      (pss_cons (ps_dput (Room_u1 hr) (pe_fld (pv 0) rfl) (pv 2) (pv 1) rfl)
      (pss_one (ps_ret (pv 2))))), ?_⟩
    refine ⟨_, rfl, u, t, rfl, ha, hf, fun H1 s1 => ?_⟩
    have hv1 := s1 _ _ hv
    have hd1 := hd.same s1
    have ha1 := ha.mono (TK.of s1)
    have put : (∀ x, lk m (sealOf t) = some x → x = t) → ∃ kvs, H1 d = some (.dK kvs) ∧ kvs.length < sizeLine ∧ Q (.int (sealOf t)) (upd H1 d (.dK (putK kvs (.inl (sealOf t)) u))) := by
      intro hx
      obtain ⟨hm, q2⟩ := q hx
      obtain ⟨kvs, e1, e2⟩ := hd1
      have e3 := e2.len
      refine ⟨kvs, e1, Nat.lt_of_lt_of_le (show kvs.length < cap by omega) cap_size, ?_⟩
      have tk : TK H1 (upd H1 d (.dK (putK kvs (.inl (sealOf t)) u))) := fun a xs h => by
        rw [upd_ne (ne_of h e1 (fun z => nomatch z))]; exact h
      exact q2 _ ((Fr.of s1).trans Fr.upd) ⟨_, upd_same, (e2.mono tk).put (ha1.mono tk)⟩
    refine ⟨_, rfl, _, rfl, v, C, dx, fs, _, rfl, hv1, cC, nC, hl, ?_⟩
    rcases lk_DGet hd1 (sealOf t) with ⟨g, e⟩ | ⟨x, tx, g, e, hx⟩
    · refine ⟨d, _, rfl, g, _, rfl, iteF (iteF ?_)⟩
      obtain ⟨kvs, e1, e2, e3⟩ := put (fun x z => by rw [e] at z; cases z)
      exact ⟨_, rfl, _, rfl, v, C, dx, fs, _, rfl, hv1, cC, nC, hl, _, rfl, d, _, rfl, DPut.k (k := .inl (sealOf t)) e1 e2, _, rfl, e3⟩
    · refine ⟨d, _, rfl, g, _, rfl, iteT ?_⟩
      refine ⟨_, rfl, v, C, dx, fs, _, rfl, hv1, cC, nC, hl, _, rfl, d, x, rfl, g, _, rfl, _, _, hx.dp, ha1.dp, shape_fit (hfx _ e), shape_fit hf, _, rfl, ?_⟩
      rw [eqv_dec]
      by_cases q0 : tx = t
      · refine neB (by rw [decide_eq_true q0]; rfl) ?_
        obtain ⟨kvs, e1, e2, e3⟩ := put (fun y z => by rw [e] at z; cases z; exact q0)
        exact ⟨_, rfl, _, rfl, v, C, dx, fs, _, rfl, hv1, cC, nC, hl, _, rfl, d, _, rfl, DPut.k (k := .inl (sealOf t)) e1 e2, _, rfl, e3⟩
      · refine eqB (by rw [decide_eq_false q0]; rfl) ?_
        refine ⟨_, rfl, v, C, dx, fs, _, rfl, hv1, cC, nC, hl, _, rfl, d, x, rfl, g, _, rfl, mk_clash fun H2 dd s2 hd2 => ?_⟩
        exact qc tx e q0 H2 dd x u (s1.trans s2) hd2 (hx.mono (TK.of s2)) (ha1.mono (TK.of s2))
end
end PV
set_option Elab.async false
set_option linter.all false
set_option maxRecDepth 100000
set_option maxHeartbeats 4000000
/-! Readers; reads and lays of any vault, by its methods. -/
namespace PV
open PySem PySem.Spec PyProof.Rows L2
section
variable {K : Frag} {H : Hp} {v d e : Addr} {st : VS} {Q : VK} {E : XK} {n : Int} {t : Th}
theorem sp_rd {R : Hp → V → Th → Prop} (h : SpP K (.rd n .ret) R v d e st H Q E) : (∀ t, lk st.own n = some t → ∀ H' u, Fr d e H H' → VAt K H' v d e st → R H' u t → Q u H') ∧
    (∀ t, lk st.own n = none → lk st.below n = some t → st.noted.length < cap ∧ ∀ H' u, Fr d e H H' → VAt K H' v d e { st with noted := pt st.noted n t } → R H' u t → Q u H') ∧
    (lk st.own n = none → lk st.below n = none → ∀ H', Fr d e H H' → E (.ref (He.ga K "NoPaper")) none H') := by
  unfold SpP wpr run VS.get at h
  cases e1 : lk st.own n with
  | some x =>
    rw [e1] at h
    refine ⟨fun t q => ?_, fun t q => (nomatch q), fun q => (nomatch q)⟩
    cases q
    exact h
  | none =>
    rw [e1] at h
    dsimp only at h
    cases e2 : lk st.below n with
    | some x =>
      rw [e2] at h
      dsimp only at h
      refine ⟨fun t q => (nomatch q), fun t _ q => ?_, fun _ q => (nomatch q)⟩
      cases q
      by_cases hc : st.noted.length < cap
      · rw [if_pos hc] at h
        exact ⟨hc, h⟩
      · rw [if_neg hc] at h
        exact h.elim
    | none =>
      rw [e2] at h
      exact ⟨fun t q => (nomatch q), fun t _ q => (nomatch q), fun _ _ => h⟩
theorem sp_ly2 {R : Hp → V → Int → Prop} (h : (match st.lay2 t with
    | .ok n s' => run (.ret n) s'
    | .clash x y => Out.clash x y
    | .over => .bad).wp (fun a st' => ∀ H' u, Fr d e H H' → VAt K H' v d e st' → R H' u a → Q u H') (∀ H', Fr d e H H' → E (.ref (He.ga K "NoPaper")) none H')
    fun x y => ∀ (H' : Hp) dd vx vy, Fr d e H H' → H' dd = some (HO.xd [("other", vy), ("one", vx)]) → ThA H' vx x → ThA H' vy y → E (.ref (He.ga K "Clash")) (some dd) H') :
    (∀ x, lk st.own (sealOf t) = some x → x ≠ t → ∀ (H' : Hp) dd vx vy, Fr d e H H' → H' dd = some (HO.xd [("other", vy), ("one", vx)]) → ThA H' vx x → ThA H' vy t → E (.ref (He.ga K "Clash")) (some dd) H') ∧
    ((∀ x, lk st.own (sealOf t) = some x → x = t) → st.own.length < cap ∧ ∀ H' u, Fr d e H H' → VAt K H' v d e { st with own := pt st.own (sealOf t) t } → R H' u (sealOf t) → Q u H') := by
  unfold VS.lay2 at h
  have fin : (match (if st.own.length < cap then Laid.ok (sealOf t) { st with own := pt st.own (sealOf t) t } else Laid.over) with
    | .ok n s' => run (.ret n) s'
    | .clash x y => Out.clash x y
    | .over => .bad).wp (fun a st' => ∀ H' u, Fr d e H H' → VAt K H' v d e st' → R H' u a → Q u H') (∀ H', Fr d e H H' → E (.ref (He.ga K "NoPaper")) none H')
    (fun x y => ∀ (H' : Hp) dd vx vy, Fr d e H H' → H' dd = some (HO.xd [("other", vy), ("one", vx)]) → ThA H' vx x → ThA H' vy y → E (.ref (He.ga K "Clash")) (some dd) H') →
    st.own.length < cap ∧ ∀ H' u, Fr d e H H' → VAt K H' v d e { st with own := pt st.own (sealOf t) t } → R H' u (sealOf t) → Q u H' := by
    intro h
    by_cases hc : st.own.length < cap
    · rw [if_pos hc] at h
      exact ⟨hc, h⟩
    · rw [if_neg hc] at h
      exact h.elim
  cases e1 : lk st.own (sealOf t) with
  | some x =>
    rw [e1] at h
    dsimp only at h
    by_cases q : x ≠ t
    · rw [if_pos q] at h
      refine ⟨fun y z _ => ?_, fun k => absurd (k x rfl) q⟩
      cases z
      exact h
    · rw [if_neg q] at h
      refine ⟨fun y z k => ?_, fun _ => fin h⟩
      cases z
      exact absurd k q
  | none =>
    rw [e1] at h
    exact ⟨fun y z => (nomatch z), fun _ => fin h⟩
theorem sp_ly {R : Hp → V → Int → Prop} (h : SpP K (.ly t .ret) R v d e st H Q E) : t.fit = true ∧
    (∀ x, lk st.below (sealOf t) = some x → x ≠ t → ∀ (H' : Hp) dd vx vy, Fr d e H H' → H' dd = some (HO.xd [("other", vy), ("one", vx)]) → ThA H' vx x → ThA H' vy t → E (.ref (He.ga K "Clash")) (some dd) H') ∧
    ((∀ x, lk st.below (sealOf t) = some x → x = t) →
      (∀ x, lk st.own (sealOf t) = some x → x ≠ t → ∀ (H' : Hp) dd vx vy, Fr d e H H' → H' dd = some (HO.xd [("other", vy), ("one", vx)]) → ThA H' vx x → ThA H' vy t → E (.ref (He.ga K "Clash")) (some dd) H') ∧
      ((∀ x, lk st.own (sealOf t) = some x → x = t) → st.own.length < cap ∧ ∀ H' u, Fr d e H H' → VAt K H' v d e { st with own := pt st.own (sealOf t) t } → R H' u (sealOf t) → Q u H')) := by
  unfold SpP wpr run VS.lay at h
  cases ef : t.fit with
  | false =>
    rw [ef, if_pos rfl] at h
    exact h.elim
  | true =>
    rw [ef, if_neg (by decide)] at h
    refine ⟨rfl, ?_⟩
    cases e1 : lk st.below (sealOf t) with
    | some x =>
      rw [e1] at h
      dsimp only at h
      by_cases q : x ≠ t
      · rw [if_pos q] at h
        refine ⟨fun y z _ => ?_, fun k => absurd (k x rfl) q⟩
        cases z
        exact h
      · rw [if_neg q] at h
        refine ⟨fun y z k => ?_, fun _ => sp_ly2 h⟩
        cases z
        exact absurd k q
    | none =>
      rw [e1] at h
      exact ⟨fun y z => (nomatch z), fun _ => sp_ly2 h⟩
/-- the state behind a lay -/
theorem lay_state (k : st.Ok) (g : st.Agr) (hf : t.fit = true) (hb : ∀ x, lk st.below (sealOf t) = some x → x = t) (ho : ∀ x, lk st.own (sealOf t) = some x → x = t) (hc : st.own.length < cap) :
    (VS.mk (pt st.own (sealOf t) t) st.below st.noted).Ok ∧ (VS.mk (pt st.own (sealOf t) t) st.below st.noted).Agr := by
  have q := lay_ok (t := t) k g
  have e : st.lay t = .ok (sealOf t) (VS.mk (pt st.own (sealOf t) t) st.below st.noted) := by
    unfold VS.lay VS.lay2
    rw [hf, if_neg (by decide)]
    cases e1 : lk st.below (sealOf t) with
    | none =>
      dsimp only
      cases e2 : lk st.own (sealOf t) with
      | none => dsimp only; rw [if_pos hc]
      | some x => dsimp only; rw [if_neg (by simp [ho x e2]), if_pos hc]
    | some y =>
      dsimp only
      rw [if_neg (by simp [hb y e1])]
      cases e2 : lk st.own (sealOf t) with
      | none => dsimp only; rw [if_pos hc]
      | some x => dsimp only; rw [if_neg (by simp [ho x e2]), if_pos hc]
  rw [e] at q
  exact ⟨q.2.1, q.2.2.1⟩
theorem get_state (k : st.Ok) (g : st.Agr) (ho : lk st.own n = none) (hb : lk st.below n = some t) (hc : st.noted.length < cap) : (VS.mk st.own st.below (pt st.noted n t)).Ok ∧ (VS.mk st.own st.below (pt st.noted n t)).Agr := by
  have q := get_ok (n := n) k g
  have e : st.get n = .got t (VS.mk st.own st.below (pt st.noted n t)) := by
    unfold VS.get
    rw [ho, hb]
    dsimp only
    rw [if_pos hc]
  rw [e] at q
  exact ⟨q.2.1, q.2.2.1⟩
end
def spRT (K : Frag) : Sp := fun vs H Q E => ∃ v d e st n, vs = [.ref v, .int n] ∧ RAt K H v d e st ∧ SpP K (.rd n .ret) ThA v d e st H Q E
def spRL (K : Frag) : Sp := fun vs H Q E => ∃ v d e st u t, vs = [.ref v, u] ∧ RAt K H v d e st ∧ ThA H u t ∧ SpP K (.ly t .ret) (fun _ u n => u = .int n) v d e st H Q E
section
variable {P : Program} {w : World} {K : Frag} {mg : Str → Option Value} {base : Heap}
abbrev Bind2 (nm q : Str) (st : Stmt) (a b : Str) : Prop := BindT nm q st [a, b]
theorem sc_rt : FnScope ["self", "number", "found"] ["self", "number"] (defScope s_Reader_thing) := ⟨rfl, rfl, rfl, by decide +kernel, rfl, by decide +kernel, by decide +kernel⟩
theorem sc_rl : FnScope ["self", "new", "number"] ["self", "new"] (defScope s_Reader_lay) := ⟨rfl, rfl, rfl, by decide +kernel, rfl, by decide +kernel, by decide +kernel⟩
theorem k_has (T : Txt K mg) : CalM P w K mg base CX0 1 (He.ga K "Keeper") "has" ["self", "number"] (spVH K) := T.m_Keeper_has.cal (f_vh T) (fun _ _ _ _ _ _ us hl => match us, hl with | [_, _], _ => rfl)
theorem r_has (T : Txt K mg) : CalM P w K mg base CX0 1 (He.ga K "Reader") "has" ["self", "number"] (spVH K) := T.m_Reader_has.cal (f_vh T) (fun _ _ _ _ _ _ us hl => match us, hl with | [_, _], _ => rfl)
theorem k_thing (T : Txt K mg) : CalM P w K mg base (L2.CX P w) 1 (He.ga K "Keeper") "thing" ["self", "number"] (spVT K) := T.m_Keeper_thing.cal (f_vt T) (fun _ _ _ _ _ _ us hl => match us, hl with | [_, _], _ => rfl)
theorem f_rt (T : Txt K mg) (f : Addr) (fd : FuncData) (F : Fun K "thing" "Reader.thing" s_Reader_thing f fd) : FnOk P w K mg base (L2.CX P w) 2 f fd ["self", "number"] (spRT K) := by
  obtain ⟨fT, fdT, cT, kT, FT⟩ := T.f_Vault_thing
  have GT := f_vt (P := P) (w := w) (base := base) T fT fdT FT
  refine F.okX sc_rt (fun vs H Q E h => ?_) (fun cdv A outer s H vs Q E hr h => ?_)
  · obtain ⟨_, _, _, _, _, rfl, _⟩ := h
    rfl
  · obtain ⟨v, d, e, st, n, rfl, R, h⟩ := h
    obtain ⟨h1, h2, h3⟩ := sp_rd h
    refine ⟨_, pss_cons (ps_if (pt_val (pe_methP (pv 0) hr pass0 (pa_cons (pv 1) pa_nil)))
        (pss_one (ps_ret (pe_clsCall GT cT T.g_Vault kT (FT.binds (fun _ _ _ _ _ _ us hl => match us, hl with | [_, _], _ => rfl)) hr (passes_call (takes_of rfl rfl rfl rfl) (fun _ _ _ _ h => h)) (pa_cons (pv 0) (pa_cons (pv 1) pa_nil))))) pss_nil)
      (pss_cons (ps_set (i := 2) sc_rt.nd rfl (.inl rfl) (pe_methP (pe_fld (pv 0) rfl) hr (passes_call (takes_of rfl rfl rfl rfl) (fun _ _ _ _ h => h)) (pa_cons (pv 1) pa_nil)))
      (pss_cons (ps_dput (Room_u1 hr) (pe_fld (pv 0) rfl) (pv 1) (pv 2) rfl)
      (pss_one (ps_ret (pv 2))))), ?_⟩
    obtain ⟨dx, b, dxb, db, hv, hb, hdb, n1, n2⟩ := R.ins
    have hs : Has K H v d := ⟨_, _, _, hv, T.c_Reader, T.n_Reader_by_seal, rfl⟩
    have hk : Has K H b db := ⟨_, _, _, hb, T.c_Keeper, T.n_Keeper_by_seal, rfl⟩
    refine ⟨_, rfl, v, _, dx, _, _, _, rfl, hv, rfl, T.c_Reader, r_has T, _, rfl, v, d, n, st.own, rfl, hs, R.own, _, rfl, ?_⟩
    cases e1 : lk st.own n with
    | some t =>
      refine iteT ⟨_, rfl, _, rfl, v, d, n, st.own, rfl, hs, R.own, fun t' u e2 ha => ?_, fun z => by rw [e1] at z; cases z⟩
      exact h1 t' e2 H u (Fr.refl _ _ _) (.inr R) ha
    | none =>
      refine iteF ⟨_, rfl, v, _, dx, _, _, rfl, hv, T.c_Reader, T.n_Reader_beneath, rfl, b, _, dxb, _, _, _, rfl, hb, rfl, T.c_Keeper, k_thing T, _, rfl, b, db, n, st.below, rfl, hk, hdb, fun t u e2 ha => ?_, fun z => h3 e1 z H (Fr.refl _ _ _)⟩
      obtain ⟨hc, q⟩ := h2 t e1 e2
      obtain ⟨kvs, k1, k2⟩ := R.noted
      have k3 := k2.len
      refine ⟨_, rfl, _, rfl, v, _, dx, _, _, rfl, hv, T.c_Reader, T.n_Reader_noted, rfl, _, rfl, e, _, rfl, DPut.k (k := .inl n) k1 (Nat.lt_of_lt_of_le (show kvs.length < cap by omega) cap_size), ?_⟩
      have fr : Fr e e H (upd H e (.dK (putK kvs (.inl n) u))) := Fr.upd
      have tk : TK H (upd H e (.dK (putK kvs (.inl n) u))) := fr.tk ⟨kvs, k1, k2⟩ ⟨kvs, k1, k2⟩
      have gs := get_state R.ok R.agr e1 e2 hc
      refine ⟨_, rfl, q _ u fr.right (.inr ⟨⟨dx, b, dxb, db, ?_, ?_, hdb.fr fr ⟨kvs, k1, k2⟩ ⟨kvs, k1, k2⟩ n2 n2, n1, n2⟩, R.ne, R.own.fr fr ⟨kvs, k1, k2⟩ ⟨kvs, k1, k2⟩ R.ne R.ne, ⟨_, upd_same, (k2.mono tk).put (ha.mono tk)⟩, gs.1, gs.2⟩) (ha.mono tk)⟩
      · rw [upd_ne (ne_of hv k1 (fun z => nomatch z))]; exact hv
      · rw [upd_ne (ne_of hb k1 (fun z => nomatch z))]; exact hb
theorem f_rl (T : Txt K mg) (f : Addr) (fd : FuncData) (F : Fun K "lay" "Reader.lay" s_Reader_lay f fd) : FnOk P w K mg base (L2.CX P w) 10 f fd ["self", "new"] (spRL K) := by
  have G := c_seal (P := P) (w := w) (base := base) T
  obtain ⟨fI, fdI, iC, tI, FI, bI⟩ := c_clash (P := P) (w := w) (base := base) T
  obtain ⟨fL, fdL, cL, kL, FL⟩ := T.f_Vault_lay
  have GL := f_vl (P := P) (w := w) (base := base) T fL fdL FL
  refine F.okX sc_rl (fun vs H Q E h => ?_) (fun cdv A outer s H vs Q E hr h => ?_)
  · obtain ⟨_, _, _, _, _, _, rfl, _⟩ := h
    rfl
  · obtain ⟨v, d, e, st, u, t, rfl, R, ha, h⟩ := h
    obtain ⟨hf, h2, h3⟩ := sp_ly h
    refine ⟨_, pss_cons (ps_set (i := 2) sc_rl.nd rfl (.inl rfl) (pe_cal G (hr.mono (by decide)) pass0 (pa_cons (pv 1) pa_nil)))
      (pss_cons (ps_if (PW.pt (pw_and (pt_val (pe_methP (pe_fld (pv 0) rfl) (hr.mono (j := 1) (by decide)) pass0 (pa_cons (pv 2) pa_nil))) (pw_and1 (pt_cmpR (op_neD hr.units) (pe_methP (pe_fld (pv 0) rfl) (hr.mono (j := 1) (by decide)) (passes_call (takes_of rfl rfl rfl rfl) (fun _ _ _ _ h => h)) (pa_cons (pv 2) pa_nil)) (pv 1) (nomark _)))))
        (pss_one (ps_raise rfl (takes_of rfl rfl rfl rfl) (pmk_oex T.x_Clash iC tI FI (hr.mono (by decide)) bI .nil pass0 rfl T.g_Clash (pa_cons (pe_methP (pe_fld (pv 0) rfl) (hr.mono (j := 1) (by decide)) (passes_call (takes_of rfl rfl rfl rfl) (fun _ _ _ _ h => h)) (pa_cons (pv 2) pa_nil)) (pa_cons (pv 1) pa_nil))))) pss_nil)
      (pss_one (ps_ret (pe_clsCall GL cL T.g_Vault kL (FL.binds (fun _ _ _ _ _ _ us hl => match us, hl with | [_, _], _ => rfl)) hr (passes_call (takes_of rfl rfl rfl rfl) (fun _ _ _ _ h => h)) (pa_cons (pv 0) (pa_cons (pv 1) pa_nil)))))), ?_⟩
    refine ⟨_, rfl, u, t, rfl, ha, hf, fun H1 s1 => ?_⟩
    have R1 := R.same s1
    have ha1 := ha.mono (TK.of s1)
    obtain ⟨dx, b, dxb, db, hv, hb, hdb, n1, n2⟩ := R1.ins
    have hs : Has K H1 v d := ⟨_, _, _, hv, T.c_Reader, T.n_Reader_by_seal, rfl⟩
    have hk : Has K H1 b db := ⟨_, _, _, hb, T.c_Keeper, T.n_Keeper_by_seal, rfl⟩
    have fin : (∀ x, lk st.below (sealOf t) = some x → x = t) → spVL K [.ref v, u] H1 Q E := by
      intro hx
      obtain ⟨q1, q2⟩ := h3 hx
      refine ⟨v, d, u, t, st.own, rfl, hs, R1.own, ha1, hf, fun x z => (R.ok.own _ _ z).2, fun x z ne H2 dd vx vy s2 => q1 x z ne H2 dd vx vy (Fr.of (s1.trans s2)), fun z => ?_⟩
      obtain ⟨hc, q3⟩ := q2 z
      refine ⟨hc, fun H2 fr dz => ?_⟩
      have ls := lay_state R.ok R.agr hf hx z hc
      refine q3 H2 _ ((Fr.of s1).trans fr.left) (.inr ⟨⟨dx, b, dxb, db, fr _ _ (R1.own.ne hv (fun _ z => nomatch z)) (R1.own.ne hv (fun _ z => nomatch z)) hv, fr _ _ (R1.own.ne hb (fun _ z => nomatch z)) (R1.own.ne hb (fun _ z => nomatch z)) hb, hdb.fr fr R1.own R1.own n1 n1, n1, n2⟩, R.ne, dz, R1.noted.fr fr R1.own R1.own R.ne.symm R.ne.symm, ls.1, ls.2⟩) rfl
    refine ⟨_, rfl, v, _, dx, _, _, rfl, hv, T.c_Reader, T.n_Reader_beneath, rfl, b, _, dxb, _, _, _, rfl, hb, rfl, T.c_Keeper, k_has T, _, rfl, b, db, sealOf t, st.below, rfl, hk, hdb, _, rfl, ?_⟩
    cases e1 : lk st.below (sealOf t) with
    | none =>
      refine iteF (iteF ⟨_, rfl, _, rfl, fin fun x z => by rw [e1] at z; cases z⟩)
    | some x =>
      refine iteT ⟨_, rfl, v, _, dx, _, _, rfl, hv, T.c_Reader, T.n_Reader_beneath, rfl, b, _, dxb, _, _, _, rfl, hb, rfl, T.c_Keeper, k_thing T, _, rfl, b, db, sealOf t, st.below, rfl, hk, hdb, fun t' ux e2 hx => ?_, fun z => by rw [e1] at z; cases z⟩
      rw [e1] at e2
      cases e2
      refine ⟨_, rfl, _, _, hx.dp, ha1.dp, shape_fit (R.ok.below _ _ e1).2, shape_fit hf, _, rfl, ?_⟩
      rw [eqv_dec]
      by_cases q0 : x = t
      · refine neB (by rw [decide_eq_true q0]; rfl) ⟨_, rfl, _, rfl, fin fun y z => by rw [e1] at z; cases z; exact q0⟩
      · refine eqB (by rw [decide_eq_false q0]; rfl) ?_
        refine ⟨_, rfl, v, _, dx, _, _, rfl, hv, T.c_Reader, T.n_Reader_beneath, rfl, b, _, dxb, _, _, _, rfl, hb, rfl, T.c_Keeper, k_thing T, _, rfl, b, db, sealOf t, st.below, rfl, hk, hdb, fun t2 uy e3 hy => ?_, fun z => by rw [e1] at z; cases z⟩
        rw [e1] at e3
        cases e3
        refine ⟨_, rfl, mk_clash fun H2 dd s2 hd2 => ?_⟩
        exact h2 x e1 q0 H2 dd _ _ (Fr.of (s1.trans s2)) hd2 (hy.mono (TK.of s2)) (ha1.mono (TK.of s2))
end
end PV
set_option Elab.async false
set_option linter.all false
set_option maxRecDepth 100000
set_option maxHeartbeats 4000000
/-! Nodes. -/
namespace PV
open PySem PySem.Spec PyProof.Rows L2
/-- a node stands there -/
def NdAt (H : Hp) (u : V) (d : Nd) : Prop := ∃ a y, u = .ref a ∧ H a = some (.tup [kyV d.k, y, .int d.l, .int d.r, .int d.c]) ∧ ThA H y d.w ∧ d.Ok
theorem ndAt_of {H : Hp} {u : V} {d : Nd} (h : ThA H u d.th) (ok : d.Ok) : NdAt H u d := by
  unfold Nd.th at h
  cases h with
  | tup ha hl =>
    cases hl with
    | cons h1 r1 =>
      cases r1 with
      | cons h2 r2 =>
        cases r2 with
        | cons h3 r3 =>
          cases r3 with
          | cons h4 r4 =>
            cases r4 with
            | cons h5 r5 =>
              cases r5
              cases h3
              cases h4
              cases h5
              rw [ta_is h1] at ha
              exact ⟨_, _, rfl, ha, h2, ok⟩
theorem NdAt.mono {H H' : Hp} (k : TK H H') {u : V} {d : Nd} (h : NdAt H u d) : NdAt H' u d := by
  obtain ⟨a, y, e, h1, h2, ok⟩ := h
  exact ⟨a, y, e, k _ _ h1, h2.mono k, ok⟩
theorem kyV_non (k : Ky) : decide (kyV k = V.non) = false := by cases k <;> exact decide_eq_false (by simp [kyV])
def spWhole : Sp := fun vs H Q _ => ∃ (i l : Int) (m : V), vs = [.int i, .int l, m] ∧ l ≤ i ∧ (m = .non ∨ ∃ k, m = .int k ∧ i ≤ k) ∧ Q (.bl true) H
def spIsNode : Sp := fun vs H Q _ => ∃ u d, vs = [u] ∧ NdAt H u d ∧ Q (.bl true) H
def spNodeAt (K : Frag) : Sp := fun vs H Q E => ∃ v d e st root, vs = [.ref v, .int root] ∧ VAt K H v d e st ∧ SpP K (nodeP root) NdAt v d e st H Q E
def spBeneath (K : Frag) : Sp := fun vs H Q E => ∃ v d e st root c, vs = [.ref v, .int root, .int c] ∧ VAt K H v d e st ∧ SpP K (beneathP root c) NdAt v d e st H Q E
def RInt (_ : Hp) (u : V) (n : Int) : Prop := u = .int n
def spSize (K : Frag) : Sp := fun vs H Q E => ∃ v d e st root, vs = [.ref v, .int root] ∧ VAt K H v d e st ∧ SpP K (sizeP root) RInt v d e st H Q E
def spSizeB (K : Frag) : Sp := fun vs H Q E => ∃ v d e st root c, vs = [.ref v, .int root, .int c] ∧ VAt K H v d e st ∧ SpP K (sizeBP root c) RInt v d e st H Q E
section
variable {P : Program} {w : World} {K : Frag} {mg : Str → Option Value} {base : Heap}
/-- v.thing(n) -/
theorem m_thing (T : Txt K mg) {H : Hp} {v d e : Addr} {st : VS} (hV : VAt K H v d e st) : ∃ C dx fs sp, H v = some (.ins C dx fs) ∧ fs.lookup ("thing" : Str) = none ∧ Cls K C ∧
    CalM P w K mg base (L2.CX P w) 2 C "thing" ["self", "number"] sp ∧ ∀ n Q E, SpP K (.rd n .ret) ThA v d e st H Q E → sp [.ref v, .int n] H Q E := by
  rcases hV with h | h
  · obtain ⟨C, dx, hC, hv⟩ := h.ins
    have big : Cls K C ∧ NoAttr K C "by_seal" ∧ CalM P w K mg base (L2.CX P w) 2 C "thing" ["self", "number"] (spVT K) := by
      rcases hC with rfl | rfl
      · exact ⟨T.c_Keeper, T.n_Keeper_by_seal, (T.m_Keeper_thing.cal (f_vt T) (fun _ _ _ _ _ _ us hl => match us, hl with | [_, _], _ => rfl)).mono (by decide)⟩
      · exact ⟨T.c_Witness, T.n_Witness_by_seal, (T.m_Witness_thing.cal (f_vt T) (fun _ _ _ _ _ _ us hl => match us, hl with | [_, _], _ => rfl)).mono (by decide)⟩
    refine ⟨C, dx, _, _, hv, rfl, big.1, big.2.2, fun n Q E q => ?_⟩
    obtain ⟨q1, q2, q3⟩ := sp_rd q
    have hb : lk st.below n = none := by rw [h.below]; rfl
    exact ⟨v, d, n, st.own, rfl, ⟨C, dx, _, hv, big.1, big.2.1, rfl⟩, h.own, fun t u e1 ha => q1 t e1 H u (Fr.refl _ _ _) (.inl h) ha, fun e1 => q3 e1 hb H (Fr.refl _ _ _)⟩
  · obtain ⟨dx, b, dxb, db, hv, _⟩ := h.ins
    exact ⟨_, dx, _, _, hv, rfl, T.c_Reader, T.m_Reader_thing.cal (f_rt T) (fun _ _ _ _ _ _ us hl => match us, hl with | [_, _], _ => rfl), fun n Q E q => ⟨v, d, e, st, n, rfl, h, q⟩⟩
/-- v.lay(t) -/
theorem m_lay (T : Txt K mg) {H : Hp} {v d e : Addr} {st : VS} (hV : VAt K H v d e st) : ∃ C dx fs sp, H v = some (.ins C dx fs) ∧ fs.lookup ("lay" : Str) = none ∧ Cls K C ∧
    CalM P w K mg base (L2.CX P w) 10 C "lay" ["self", "new"] sp ∧ ∀ H1 u t Q E, Same H H1 → ThA H1 u t → SpP K (.ly t .ret) RInt v d e st H1 Q E → sp [.ref v, u] H1 Q E := by
  rcases hV with h | h
  · obtain ⟨C, dx, hC, hv⟩ := h.ins
    have big : Cls K C ∧ NoAttr K C "by_seal" ∧ CalM P w K mg base (L2.CX P w) 10 C "lay" ["self", "new"] (spVL K) := by
      rcases hC with rfl | rfl
      · exact ⟨T.c_Keeper, T.n_Keeper_by_seal, (T.m_Keeper_lay.cal (f_vl T) (fun _ _ _ _ _ _ us hl => match us, hl with | [_, _], _ => rfl)).mono (by decide)⟩
      · exact ⟨T.c_Witness, T.n_Witness_by_seal, (T.m_Witness_lay.cal (f_vl T) (fun _ _ _ _ _ _ us hl => match us, hl with | [_, _], _ => rfl)).mono (by decide)⟩
    refine ⟨C, dx, _, _, hv, rfl, big.1, big.2.2, fun H1 u t Q E s1 ha q => ?_⟩
    obtain ⟨hf, _, q2⟩ := sp_ly q
    have h1 := h.same s1
    have hb : ∀ x, lk st.below (sealOf t) = some x → x = t := fun x z => by rw [h.below] at z; cases z
    obtain ⟨q3, q4⟩ := q2 hb
    refine ⟨v, d, u, t, st.own, rfl, ⟨C, dx, _, s1 _ _ hv, big.1, big.2.1, rfl⟩, h1.own, ha, hf, fun x z => (h.ok.own _ _ z).2, fun x z ne H2 dd vx vy s2 => q3 x z ne H2 dd vx vy (Fr.of s2), fun z => ?_⟩
    obtain ⟨hc, q5⟩ := q4 z
    refine ⟨hc, fun H2 fr dz => ?_⟩
    have ls := lay_state h.ok h.agr hf hb z hc
    have hv1 := s1 _ _ hv
    exact q5 H2 _ fr.left (.inl ⟨⟨C, dx, hC, fr _ _ (h1.own.ne hv1 (fun _ z => nomatch z)) (h1.own.ne hv1 (fun _ z => nomatch z)) hv1⟩, h.ed, dz, h.below, h.noted, ls.1, ls.2⟩) rfl
  · obtain ⟨dx, b, dxb, db, hv, _⟩ := h.ins
    exact ⟨_, dx, _, _, hv, rfl, T.c_Reader, T.m_Reader_lay.cal (f_rl T) (fun _ _ _ _ _ _ us hl => match us, hl with | [_, _], _ => rfl), fun H1 u t Q E s1 ha q => ⟨v, d, e, st, u, t, rfl, h.same s1, ha, q⟩⟩
theorem sc_wh : FnScope ["thing", "least", "most"] ["thing", "least", "most"] (defScope s_is_whole) := ⟨rfl, rfl, rfl, by decide +kernel, rfl, by decide +kernel, by decide +kernel⟩
theorem c_is_whole (T : Txt K mg) : Cal P w K mg base CX0 1 "is_whole" ["thing", "least", "most"] spWhole := by
  refine T.d_is_whole.cal (fun f fd F => F.ok sc_wh (fun vs H Q E h => ?_) (fun cdv A outer s H vs Q E hr h => ?_)) (fun _ _ _ _ _ _ us hl => match us, hl with | [_, _, _], _ => rfl)
  · obtain ⟨_, _, _, rfl, _⟩ := h
    rfl
  · obtain ⟨i, l, m, rfl, hl, hm, q⟩ := h
    refine ⟨_, pss_cons (ps_if (PW.pt (pw_or (pt_not (pt_val (pe_isi .int (pv 0) T.b_isinstance T.b_int bt_int))) (pw_or (pt_val (pe_isi .bl (pv 0) T.b_isinstance T.b_bool bt_bl)) (pw_or1 (pt_cmpR op_lt (pv 0) (pv 1) (nomark _)))))) (pss_one (ps_ret pe_bl)) pss_nil)
      (pss_one (ps_ret (pe_or (pe_cmpR op_isN (pv 2) pe_non (nomark _)) (pe_one (pe_cmpR op_le (pv 0) (pv 2) (nomark _)))))), ?_⟩
    refine ⟨_, rfl, _, .int i, rfl, .int i, _, rfl, iteF ?_⟩
    refine ⟨_, rfl, _, .int i, rfl, .int i, _, rfl, iteF ?_⟩
    refine ⟨_, rfl, _, rfl, _, _, rfl, rfl, _, rfl, neB (decide_eq_false (by omega)) ?_⟩
    rcases hm with rfl | ⟨k, rfl, hk⟩
    · exact ⟨_, rfl, rfl, _, rfl, iteT q⟩
    · refine ⟨_, rfl, rfl, _, rfl, iteF ⟨_, rfl, _, rfl, _, _, rfl, rfl, ?_⟩⟩
      show Q (.bl (decide (i ≤ k))) H
      rw [decide_eq_true hk]
      exact q
theorem sc_in : FnScope ["thing", "key", "worth", "left", "right", "count"] ["thing"] (defScope s_is_node) := ⟨rfl, rfl, rfl, by decide +kernel, rfl, by decide +kernel, by decide +kernel⟩
theorem c_is_node (T : Txt K mg) : Cal P w K mg base CX0 2 "is_node" ["thing"] spIsNode := by
  have G := c_is_whole (P := P) (w := w) (base := base) T
  refine T.d_is_node.cal (fun f fd F => F.ok sc_in (fun vs H Q E h => ?_) (fun cdv A outer s H vs Q E hr h => ?_)) (fun _ _ _ _ _ _ us hl => match us, hl with | [_], _ => rfl)
  · obtain ⟨_, _, rfl, _⟩ := h
    rfl
  · obtain ⟨u, d, rfl, ⟨a, y, rfl, ha, hy, ok⟩, q⟩ := h
    have tA : ThA H (.ref a) (.tup [d.k.th, d.w, .int d.l, .int d.r, .int d.c]) := .tup ha (.cons (ta_kyV d.k) (.cons hy (.cons (.int _) (.cons (.int _) (.cons (.int _) .nil)))))
    refine ⟨_, pss_cons (ps_if (PW.pt (pw_or (pt_not (pt_val (pe_isi .tup (pv 0) T.b_isinstance T.b_tuple bt_tup))) (pw_or1 (pt_cmpR op_ne (pe_callB call_len_seq (by rfl) T.b_len PySem.boot_len (pa_cons (pv 0) pa_nil)) pe_int (nomark _))))) (pss_one (ps_ret pe_bl)) pss_nil)
      (pss_cons (ps_asg (pv 0) (pg_tup rfl (pgs_cons (pg_name (i := 1) sc_in.nd rfl (.inl rfl)) (pgs_cons (pg_name (i := 2) sc_in.nd rfl (.inl rfl)) (pgs_cons (pg_name (i := 3) sc_in.nd rfl (.inl rfl)) (pgs_cons (pg_name (i := 4) sc_in.nd rfl (.inl rfl)) (pgs_cons (pg_name (i := 5) sc_in.nd rfl (.inl rfl)) pgs_nil)))))))
      (pss_cons (ps_if (PW.pt (pw_or (pt_cmpR op_isN (pv 1) pe_non (nomark _)) (pw_or1 (pt_cmpR op_isN (pv 2) pe_non (nomark _))))) (pss_one (ps_ret pe_bl)) pss_nil)
      (pss_one (ps_ret (pe_and (pe_cal G hr pass0 (pa_cons (pv 3) (pa_cons pe_int (pa_cons pe_non pa_nil)))) (pe_and (pe_cal G hr pass0 (pa_cons (pv 4) (pa_cons pe_int (pa_cons pe_non pa_nil)))) (pe_one (pe_cal G hr pass0 (pa_cons (pv 5) (pa_cons pe_int (pa_cons (pe_gint T.i_MOST_NODES) pa_nil)))))))))))
      , ?_⟩
    refine ⟨_, rfl, _, _, rfl, tA, _, rfl, iteF ?_⟩
    refine ⟨_, rfl, a, _, rfl, .inr (SqT.of ha), rfl, _, rfl, iteF ?_⟩
    refine ⟨_, rfl, a, _, rfl, SqT.of ha, rfl, _, _, rfl, _, _, rfl, _, _, rfl, _, _, rfl, _, _, rfl, rfl, ?_⟩
    refine ⟨_, rfl, rfl, _, rfl, neB (kyV_non d.k) ?_⟩
    refine ⟨_, rfl, rfl, _, rfl, neB (by rw [ta_non hy]; exact decide_eq_false ok.w) ?_⟩
    refine ⟨_, rfl, d.l, 0, .non, rfl, ok.l, .inl rfl, _, rfl, iteT ?_⟩
    refine ⟨_, rfl, d.r, 0, .non, rfl, ok.r, .inl rfl, _, rfl, iteT ?_⟩
    exact ⟨_, rfl, d.c, 1, .int 300, rfl, ok.c1, .inr ⟨300, rfl, ok.c2⟩, q⟩
theorem sc_na : FnScope ["vault", "root", "node"] ["vault", "root"] (defScope s_node_at) := ⟨rfl, rfl, rfl, by decide +kernel, rfl, by decide +kernel, by decide +kernel⟩
theorem c_node_at (T : Txt K mg) : Cal P w K mg base (L2.CX P w) 3 "node_at" ["vault", "root"] (spNodeAt K) := by
  have G := c_is_node (P := P) (w := w) (base := base) T
  refine T.d_node_at.cal (fun f fd F => F.okX sc_na (fun vs H Q E h => ?_) (fun cdv A outer s H vs Q E hr h => ?_)) (fun _ _ _ _ _ _ us hl => match us, hl with | [_, _], _ => rfl)
  · obtain ⟨_, _, _, _, _, rfl, _⟩ := h
    rfl
  · obtain ⟨v, d, e, st, root, rfl, hV, h⟩ := h
    refine ⟨_, pss_cons (ps_set (i := 2) sc_na.nd rfl (.inl rfl) (pe_methP (pv 0) hr (passes_call (takes_of rfl rfl rfl rfl) (fun _ _ _ _ h => h)) (pa_cons (pv 1) pa_nil)))
      (pss_cons (ps_if (pt_not (pt_val (pe_cal G hr pass0 (pa_cons (pv 2) pa_nil)))) pss_never pss_nil)
      (pss_one (ps_ret (pv 2)))), ?_⟩
    obtain ⟨C, dx, fs, sp, hv, hl, cC, cm, hsp⟩ := m_thing (P := P) (w := w) (base := base) T hV
    refine ⟨_, rfl, v, C, dx, fs, _, sp, rfl, hv, hl, cC, cm, _, rfl, hsp root _ _ ?_⟩
    refine SpP.bind (p := .rd root .ret) (g := fun t => match asNd t with | some d => .ret d | none => .bad) h fun t st1 u H1 fr V1 ha q => ?_
    cases e1 : asNd t with
    | none =>
      rw [e1] at q
      exact q.bad.elim
    | some nd =>
      rw [e1] at q
      obtain ⟨rfl, ok⟩ := asNd_eq e1
      have hn := ndAt_of ha ok
      exact ⟨_, rfl, u, nd, rfl, hn, _, rfl, iteF ⟨_, rfl, q.ret V1 hn⟩⟩
theorem sc_nb : FnScope ["vault", "root", "count", "node"] ["vault", "root", "count"] (defScope s_node_beneath) := ⟨rfl, rfl, rfl, by decide +kernel, rfl, by decide +kernel, by decide +kernel⟩
theorem c_node_beneath (T : Txt K mg) : Cal P w K mg base (L2.CX P w) 4 "node_beneath" ["vault", "root", "count"] (spBeneath K) := by
  have G := c_node_at (P := P) (w := w) (base := base) T
  refine T.d_node_beneath.cal (fun f fd F => F.okX sc_nb (fun vs H Q E h => ?_) (fun cdv A outer s H vs Q E hr h => ?_)) (fun _ _ _ _ _ _ us hl => match us, hl with | [_, _, _], _ => rfl)
  · obtain ⟨_, _, _, _, _, _, rfl, _⟩ := h
    rfl
  · obtain ⟨v, d, e, st, root, c, rfl, hV, h⟩ := h
    refine ⟨_, pss_cons (ps_set (i := 3) sc_nb.nd rfl (.inl rfl) (pe_cal G hr (passes_call (takes_of rfl rfl rfl rfl) (fun _ _ _ _ h => h)) (pa_cons (pv 0) (pa_cons (pv 1) pa_nil))))
      (pss_cons (ps_if (pt_cmpR op_ge (pe_ix ix_tup (pv 3) pe_int (fun _ _ => rfl)) (pv 2) (nomark _)) pss_never pss_nil)
      (pss_one (ps_ret (pv 3)))), ?_⟩
    refine ⟨_, rfl, _, rfl, v, d, e, st, root, rfl, hV, h.bind fun nd st1 u H1 fr V1 hn q => ?_⟩
    obtain ⟨a, y, rfl, ha, hy, ok⟩ := id hn
    refine ⟨_, rfl, a, _, 4, _, rfl, rfl, SqT.of ha, rfl, _, rfl, _, _, rfl, rfl, _, rfl, ?_⟩
    by_cases hc : nd.c < c
    · rw [if_pos hc] at q
      exact neB (decide_eq_false (by omega)) ⟨_, rfl, q.ret V1 hn⟩
    · rw [if_neg hc] at q
      exact q.bad.elim
theorem sc_sz : FnScope ["vault", "root"] ["vault", "root"] (defScope s_size) := ⟨rfl, rfl, rfl, by decide +kernel, rfl, by decide +kernel, by decide +kernel⟩
theorem c_size (T : Txt K mg) : Cal P w K mg base (L2.CX P w) 4 "size" ["vault", "root"] (spSize K) := by
  have G := c_node_at (P := P) (w := w) (base := base) T
  refine T.d_size.cal (fun f fd F => F.okX sc_sz (fun vs H Q E h => ?_) (fun cdv A outer s H vs Q E hr h => ?_)) (fun _ _ _ _ _ _ us hl => match us, hl with | [_, _], _ => rfl)
  · obtain ⟨_, _, _, _, _, rfl, _⟩ := h
    rfl
  · obtain ⟨v, d, e, st, root, rfl, hV, h⟩ := h
    refine ⟨_, pss_cons (ps_if (pt_cmpR op_eq (pv 1) pe_int (nomark _)) (pss_one (ps_ret pe_int)) pss_nil)
      (pss_one (ps_ret (pe_ix ix_tup (pe_cal G hr (passes_call (takes_of rfl rfl rfl rfl) (fun _ _ _ _ h => h)) (pa_cons (pv 0) (pa_cons (pv 1) pa_nil))) pe_int (fun _ _ => rfl)))), ?_⟩
    refine ⟨_, rfl, rfl, _, rfl, ?_⟩
    rw [dec_int]
    unfold sizeP at h
    by_cases h0 : root = 0
    · rw [if_pos h0] at h
      exact eqB (by simp [h0]) (h.ret hV rfl)
    · rw [if_neg h0] at h
      refine neB (by simp [h0]) ⟨_, rfl, _, rfl, v, d, e, st, root, rfl, hV, h.bind fun nd st1 u H1 fr V1 hn q => ?_⟩
      obtain ⟨a, y, rfl, ha, hy, ok⟩ := id hn
      exact ⟨a, _, 4, _, rfl, rfl, SqT.of ha, rfl, q.ret V1 rfl⟩
theorem sc_sb : FnScope ["vault", "root", "count"] ["vault", "root", "count"] (defScope s_size_beneath) := ⟨rfl, rfl, rfl, by decide +kernel, rfl, by decide +kernel, by decide +kernel⟩
theorem c_size_beneath (T : Txt K mg) : Cal P w K mg base (L2.CX P w) 5 "size_beneath" ["vault", "root", "count"] (spSizeB K) := by
  have G := c_node_beneath (P := P) (w := w) (base := base) T
  refine T.d_size_beneath.cal (fun f fd F => F.okX sc_sb (fun vs H Q E h => ?_) (fun cdv A outer s H vs Q E hr h => ?_)) (fun _ _ _ _ _ _ us hl => match us, hl with | [_, _, _], _ => rfl)
  · obtain ⟨_, _, _, _, _, _, rfl, _⟩ := h
    rfl
  · obtain ⟨v, d, e, st, root, c, rfl, hV, h⟩ := h
    refine ⟨_, pss_cons (ps_if (pt_cmpR op_eq (pv 1) pe_int (nomark _)) (pss_one (ps_ret pe_int)) pss_nil)
      (pss_one (ps_ret (pe_ix ix_tup (pe_cal G hr (passes_call (takes_of rfl rfl rfl rfl) (fun _ _ _ _ h => h)) (pa_cons (pv 0) (pa_cons (pv 1) (pa_cons (pv 2) pa_nil)))) pe_int (fun _ _ => rfl)))), ?_⟩
    refine ⟨_, rfl, rfl, _, rfl, ?_⟩
    rw [dec_int]
    unfold sizeBP at h
    by_cases h0 : root = 0
    · rw [if_pos h0] at h
      exact eqB (by simp [h0]) (h.ret hV rfl)
    · rw [if_neg h0] at h
      refine neB (by simp [h0]) ⟨_, rfl, _, rfl, _, rfl, v, d, e, st, root, c, rfl, hV, h.bind fun nd st1 u H1 fr V1 hn q => ?_⟩
      obtain ⟨a, y, rfl, ha, hy, ok⟩ := id hn
      exact ⟨a, _, 4, _, rfl, rfl, SqT.of ha, rfl, q.ret V1 rfl⟩
end
end PV
set_option Elab.async false
set_option linter.all false
set_option maxRecDepth 100000
set_option maxHeartbeats 4000000
/-! Trees: what is read. -/
namespace PV
open PySem PySem.Spec PyProof.Rows L2
def kyO : Option Ky → V
  | none => .non
  | some k => kyV k
theorem kyO_non (o : Option Ky) : decide (kyO o = V.non) = o.isNone := by
  cases o with
  | none => rfl
  | some k => exact kyV_non k
/-- a pair stands there -/
def PrAt (H : Hp) (u : V) (p : Ky × Th) : Prop := ∃ b y, u = .ref b ∧ H b = some (.tup [kyV p.1, y]) ∧ ThA H y p.2
theorem PrAt.mono {H H' : Hp} (k : TK H H') {u : V} {p : Ky × Th} (h : PrAt H u p) : PrAt H' u p := by
  obtain ⟨b, y, e, h1, h2⟩ := h
  exact ⟨b, y, e, k _ _ h1, h2.mono k⟩
theorem paired_mono {α β : Type} {R R' : α → β → Prop} (k : ∀ a b, R a b → R' a b) : ∀ {xs : List α} {ys : List β}, Paired R xs ys → Paired R' xs ys
  | _, _, .nil => .nil
  | _, _, .cons h r => .cons (k _ _ h) (paired_mono k r)
section
variable {α β : Type} {K : Frag} {H Hc : Hp} {v d e : Addr} {st : VS} {Q Q1 : VK} {E : XK}
/-- as SpP.bind, from a later heap -/
theorem SpP.next {p : Prog α} {g : α → Prog β} {R : Hp → V → β → Prop} {R' : Hp → V → α → Prop} (h : SpP K (p.bind g) R v d e st H Q E) (f0 : Fr d e H Hc)
    (k : ∀ a st1 u H1, Fr d e Hc H1 → VAt K H1 v d e st1 → R' H1 u a → SpP K (g a) R v d e st1 H Q E → Q1 u H1) : SpP K p R' v d e st Hc Q1 E := by
  unfold SpP at h
  rw [wp_bind] at h
  exact wp_mono h (fun a st1 q H1 u f hV r => k a st1 u H1 f hV r q) (fun q H' f => q H' (f0.trans f)) fun _ _ q H' dd vx vy f => q H' dd vx vy (f0.trans f)
theorem SpP.done {a : α} {R : Hp → V → α → Prop} (h : SpP K (.ret a) R v d e st H Q E) (f0 : Fr d e H Hc) (hV : VAt K Hc v d e st) {u : V} (r : R Hc u a) : Q u Hc := h Hc u f0 hV r
/-- the rest of a run, by the same promise -/
theorem SpP.go {p : Prog α} {R : Hp → V → α → Prop} (h : SpP K p R v d e st H Q E) (f0 : Fr d e H Hc) : SpP K p R v d e st Hc Q E := h.fr f0
theorem Fr.new {l : Addr} {o : HO} (f : Fr d e H Hc) (hl : H l = none) : Fr d e H (L2.upd Hc l o) := fun a u h1 h2 q => by
  rw [upd_ne (ne_of_none q hl)]
  exact f a u h1 h2 q
/-- a list of one's own is written -/
theorem VAt.lst {l : Addr} {xs ys : List V} (h : VAt K H v d e st) (hl : H l = some (.lst xs)) : VAt K (L2.upd H l (.lst ys)) v d e st := by
  have tk : TK H (L2.upd H l (.lst ys)) := fun a zs q => by rw [upd_ne (ne_of q hl (fun z => nomatch z))]; exact q
  have dt : ∀ {x m}, DAt H x m → DAt (L2.upd H l (.lst ys)) x m := fun {x m} q => by
    obtain ⟨kvs, q1, q2⟩ := q
    exact ⟨kvs, by rw [upd_ne (ne_of q1 hl (fun z => nomatch z))]; exact q1, q2.mono tk⟩
  rcases h with h | h
  · obtain ⟨C, dx, hC, hv⟩ := h.ins
    exact .inl ⟨⟨C, dx, hC, by rw [upd_ne (ne_of hv hl (fun z => nomatch z))]; exact hv⟩, h.ed, dt h.own, h.below, h.noted, h.ok, h.agr⟩
  · obtain ⟨dx, b, dxb, db, h1, h2, h3, h4, h5⟩ := h.ins
    exact .inr ⟨⟨dx, b, dxb, db, by rw [upd_ne (ne_of h1 hl (fun z => nomatch z))]; exact h1, by rw [upd_ne (ne_of h2 hl (fun z => nomatch z))]; exact h2, dt h3, h4, h5⟩, h.ne, dt h.own, dt h.noted, h.ok, h.agr⟩
theorem tk_lst {l : Addr} {xs ys : List V} (hl : H l = some (.lst xs)) : TK H (L2.upd H l (.lst ys)) := fun a zs q => by rw [upd_ne (ne_of q hl (fun z => nomatch z))]; exact q
end
def spFound (K : Frag) : Sp := fun vs H Q E => ∃ v d e st root key, vs = [.ref v, .int root, kyV key] ∧ VAt K H v d e st ∧ SpP K (foundQ root key) ThA v d e st H Q E
def spGoL : Sp := fun vs H Q _ => ∃ (lo : Option Ky) (k : Ky), vs = [kyO lo, kyV k] ∧ Q (.bl (goesL lo k)) H
def spGoR : Sp := fun vs H Q _ => ∃ (hi : Option Ky) (k : Ky), vs = [kyO hi, kyV k] ∧ Q (.bl (goesR hi k)) H
def spIn : Sp := fun vs H Q _ => ∃ (lo hi : Option Ky) (k : Ky), vs = [kyO lo, kyO hi, kyV k] ∧ Q (.bl (isIn lo hi k)) H
def RNon (_ : Hp) (u : V) (_ : Unit) : Prop := u = .non
def spNeed (K : Frag) : Sp := fun vs H Q E => ∃ v d e st u nd, vs = [.ref v, u] ∧ VAt K H v d e st ∧ NdAt H u nd ∧ SpP K (needP nd) RNon v d e st H Q E
def spEmpty : Sp := fun vs H Q _ => ∃ (lo hi : Option Ky), vs = [kyO lo, kyO hi] ∧ Q (.bl (isEmpty lo hi)) H
def spAheadOf (K : Frag) : Sp := fun vs H Q E => ∃ v d e st root key, vs = [.ref v, .int root, kyV key] ∧ VAt K H v d e st ∧ SpP K (aheadQ root key) RInt v d e st H Q E
def spCounted (K : Frag) : Sp := fun vs H Q E => ∃ v d e st root lo hi, vs = [.ref v, .int root, kyO lo, kyO hi] ∧ VAt K H v d e st ∧ SpP K (countQ root lo hi) RInt v d e st H Q E
def RPo (H : Hp) (u : V) (o : Option (Ky × Th)) : Prop := match o with
  | none => u = .non
  | some p => PrAt H u p
def spNth (K : Frag) : Sp := fun vs H Q E => ∃ v d e st root n, vs = [.ref v, .int root, .int n] ∧ VAt K H v d e st ∧ SpP K (nthQ root n) RPo v d e st H Q E
section
variable {P : Program} {w : World} {K : Frag} {mg : Str → Option Value} {base : Heap}
theorem sc_fo : FnScope ["vault", "root", "key", "count", "node"] ["vault", "root", "key"] (defScope s_found) := ⟨rfl, rfl, rfl, by decide +kernel, rfl, by decide +kernel, by decide +kernel⟩
theorem sc_gl : FnScope ["low", "key"] ["low", "key"] (defScope s_goes_left) := ⟨rfl, rfl, rfl, by decide +kernel, rfl, by decide +kernel, by decide +kernel⟩
theorem sc_gr : FnScope ["high", "key"] ["high", "key"] (defScope s_goes_right) := ⟨rfl, rfl, rfl, by decide +kernel, rfl, by decide +kernel, by decide +kernel⟩
theorem sc_iw : FnScope ["low", "high", "key"] ["low", "high", "key"] (defScope s_is_within_trees) := ⟨rfl, rfl, rfl, by decide +kernel, rfl, by decide +kernel, by decide +kernel⟩
theorem sc_nc : FnScope ["vault", "node", "left", "right"] ["vault", "node"] (defScope s_need_counted) := ⟨rfl, rfl, rfl, by decide +kernel, rfl, by decide +kernel, by decide +kernel⟩
theorem sc_ie : FnScope ["low", "high"] ["low", "high"] (defScope s_is_empty) := ⟨rfl, rfl, rfl, by decide +kernel, rfl, by decide +kernel, by decide +kernel⟩
theorem c_goes_left (T : Txt K mg) : Cal P w K mg base CX0 4 "goes_left" ["low", "key"] spGoL := by
  have G := c_ahead (P := P) (w := w) (base := base) T
  refine T.d_goes_left.cal (fun f fd F => F.ok sc_gl (fun vs H Q E h => ?_) (fun cdv A outer s H vs Q E hr h => ?_)) (fun _ _ _ _ _ _ us hl => match us, hl with | [_, _], _ => rfl)
  · obtain ⟨_, _, rfl, _⟩ := h
    rfl
  · obtain ⟨lo, k, rfl, q⟩ := h
    refine ⟨_, pss_one (ps_ret (pe_or (pe_cmpR op_isN (pv 0) pe_non (nomark _)) (pe_one (pe_cal G hr pass0 (pa_cons (pv 0) (pa_cons (pv 1) pa_nil)))))), ?_⟩
    refine ⟨_, rfl, rfl, _, rfl, ?_⟩
    cases lo with
    | none => exact eqB (kyO_non none) q
    | some a => exact neB (kyO_non (some a)) ⟨_, rfl, _, rfl, a, k, rfl, q⟩
theorem c_goes_right (T : Txt K mg) : Cal P w K mg base CX0 4 "goes_right" ["high", "key"] spGoR := by
  have G := c_ahead (P := P) (w := w) (base := base) T
  refine T.d_goes_right.cal (fun f fd F => F.ok sc_gr (fun vs H Q E h => ?_) (fun cdv A outer s H vs Q E hr h => ?_)) (fun _ _ _ _ _ _ us hl => match us, hl with | [_, _], _ => rfl)
  · obtain ⟨_, _, rfl, _⟩ := h
    rfl
  · obtain ⟨hi, k, rfl, q⟩ := h
    refine ⟨_, pss_one (ps_ret (pe_or (pe_cmpR op_isN (pv 0) pe_non (nomark _)) (pe_one (pe_cal G hr pass0 (pa_cons (pv 1) (pa_cons (pv 0) pa_nil)))))), ?_⟩
    refine ⟨_, rfl, rfl, _, rfl, ?_⟩
    cases hi with
    | none => exact eqB (kyO_non none) q
    | some a => exact neB (kyO_non (some a)) ⟨_, rfl, _, rfl, k, a, rfl, q⟩
theorem c_is_withinT (T : Txt K mg) : Cal P w K mg base CX0 5 "is_within_trees" ["low", "high", "key"] spIn := by
  have G := c_ahead (P := P) (w := w) (base := base) T
  have GR := c_goes_right (P := P) (w := w) (base := base) T
  refine T.d_is_within_trees.cal (fun f fd F => F.ok sc_iw (fun vs H Q E h => ?_) (fun cdv A outer s H vs Q E hr h => ?_)) (fun _ _ _ _ _ _ us hl => match us, hl with | [_, _, _], _ => rfl)
  · obtain ⟨_, _, _, rfl, _⟩ := h
    rfl
  · obtain ⟨lo, hi, k, rfl, q⟩ := h
    refine ⟨_, pss_one (ps_ret (pe_and (pe_or (pe_cmpR op_isN (pv 0) pe_non (nomark _)) (pe_one (pe_not (pe_cal G (hr.mono (by decide)) pass0 (pa_cons (pv 2) (pa_cons (pv 0) pa_nil)))))) (pe_one (pe_cal GR hr pass0 (pa_cons (pv 1) (pa_cons (pv 2) pa_nil)))))), ?_⟩
    unfold isIn at q
    refine ⟨_, rfl, rfl, _, rfl, ?_⟩
    cases lo with
    | none => exact eqB (kyO_non none) ⟨_, rfl, iteT ⟨_, rfl, _, rfl, hi, k, rfl, q⟩⟩
    | some a =>
      refine neB (kyO_non (some a)) ⟨_, rfl, _, rfl, k, a, rfl, _, rfl, _, rfl, ?_⟩
      have e1 : notBelow (some a) k = !ahead k a := rfl
      rw [e1] at q
      cases hb : (!ahead k a) with
      | true =>
        rw [hb, Bool.true_and] at q
        exact iteT ⟨_, rfl, _, rfl, hi, k, rfl, q⟩
      | false =>
        rw [hb, Bool.false_and] at q
        exact iteF q
theorem c_is_empty (T : Txt K mg) : Cal P w K mg base CX0 4 "is_empty" ["low", "high"] spEmpty := by
  have G := c_ahead (P := P) (w := w) (base := base) T
  refine T.d_is_empty.cal (fun f fd F => F.ok sc_ie (fun vs H Q E h => ?_) (fun cdv A outer s H vs Q E hr h => ?_)) (fun _ _ _ _ _ _ us hl => match us, hl with | [_, _], _ => rfl)
  · obtain ⟨_, _, rfl, _⟩ := h
    rfl
  · obtain ⟨lo, hi, rfl, q⟩ := h
    refine ⟨_, pss_one (ps_ret (pe_and (pe_cmpR op_notN (pv 0) pe_non (nomark _)) (pe_and (pe_cmpR op_notN (pv 1) pe_non (nomark _)) (pe_one (pe_not (pe_cal G hr pass0 (pa_cons (pv 0) (pa_cons (pv 1) pa_nil)))))))), ?_⟩
    refine ⟨_, rfl, rfl, _, rfl, ?_⟩
    cases lo with
    | none => exact neB (by rw [kyO_non]; rfl) q
    | some a =>
      refine eqB (by rw [kyO_non]; rfl) ⟨_, rfl, rfl, _, rfl, ?_⟩
      cases hi with
      | none => exact neB (by rw [kyO_non]; rfl) q
      | some b => exact eqB (by rw [kyO_non]; rfl) ⟨_, rfl, _, rfl, a, b, rfl, _, rfl, q⟩
theorem c_found (T : Txt K mg) : Cal P w K mg base (L2.CX P w) 5 "found" ["vault", "root", "key"] (spFound K) := by
  have G := c_node_beneath (P := P) (w := w) (base := base) T
  have GA := c_ahead (P := P) (w := w) (base := base) T
  refine T.d_found.cal (fun f fd F => F.okX sc_fo (fun vs H Q E h => ?_) (fun cdv A outer s H vs Q E hr h => ?_)) (fun _ _ _ _ _ _ us hl => match us, hl with | [_, _, _], _ => rfl)
  · obtain ⟨_, _, _, _, _, _, rfl, _⟩ := h
    rfl
  · obtain ⟨v, d, e, st, root, key, rfl, hV, h⟩ := h
    have hr3 : Room 3 (A.deeper (envOfC "found" (defScope s_found) s.heap.objs.size f cdv)) := hr.mono (by decide)
    refine ⟨_, pss_cons (ps_set (i := 3) sc_fo.nd rfl (.inl rfl) (pe_gint T.i_UNBOUND))
      (pss_cons (ps_while (passes_of rfl) (pt_cmpR op_ne (pv 1) pe_int (nomark _))
        (pss_cons (ps_set (i := 4) sc_fo.nd rfl (.inl rfl) (pe_cal G hr (passes_call (takes_of rfl rfl rfl rfl) (fun _ _ _ _ h => h)) (pa_cons (pv 0) (pa_cons (pv 1) (pa_cons (pv 3) pa_nil)))))
        (pss_cons (ps_if (pt_cmpR op_eq (pe_ix ix_tup (pv 4) pe_int (fun _ _ => rfl)) (pv 2) (nomark _)) (pss_one (ps_ret (pe_ix ix_tup (pv 4) pe_int (fun _ _ => rfl)))) pss_nil)
        (pss_cons (ps_set (i := 3) sc_fo.nd rfl (.inl rfl) (pe_ix ix_tup (pv 4) pe_int (fun _ _ => rfl)))
        (pss_cons (ps_set (i := 1) sc_fo.nd rfl (.inl rfl) (pe_ix ix_tup (pv 4) pe_int (fun _ _ => rfl)))
        (pss_one (ps_if (pt_val (pe_cal GA hr3 pass0 (pa_cons (pv 2) (pa_cons (pe_ix ix_tup (pv 4) pe_int (fun _ _ => rfl)) pa_nil)))) (pss_one (ps_set (i := 1) sc_fo.nd rfl (.inl rfl) (pe_ix ix_tup (pv 4) pe_int (fun _ _ => rfl)))) pss_nil)))))))
      (pss_one (ps_ret pe_non))), ?_⟩
    refine ⟨fun m σ Hc => ∃ st root c b, σ = [some (.ref v), some (.int root), some (kyV key), some (.int c), b] ∧ VAt K Hc v d e st ∧ Fr d e H Hc ∧ SpP K (foundP m root key c) ThA v d e st H Q E,
      ⟨fuelP, st, root, 301, none, rfl, hV, Fr.refl _ _ _, h⟩, ?_⟩
    rintro m σ Hc ⟨st, root, c, b, rfl, hV, fr, h⟩
    cases m with
    | zero => exact h.bad.elim
    | succ m =>
      unfold foundP at h
      refine ⟨_, rfl, rfl, _, rfl, ?_⟩
      rw [dec_int]
      by_cases h0 : root = 0
      · rw [if_pos h0] at h
        exact neB (by simp [h0]) (h.done fr hV .non)
      · rw [if_neg h0] at h
        refine eqB (by simp [h0]) ⟨fun σ' H' => ∃ st root c b, σ' = [some (.ref v), some (.int root), some (kyV key), some (.int c), b] ∧ VAt K H' v d e st ∧ Fr d e H H' ∧ SpP K (foundP m root key c) ThA v d e st H Q E,
          fun σ' H' z => ⟨m, Nat.lt_succ_self _, z⟩, ?_⟩
        refine ⟨_, rfl, _, rfl, _, rfl, v, d, e, st, root, c, rfl, hV, h.next fr fun nd st1 u H1 fr1 V1 hn q => ?_⟩
        have fr2 := fr.trans fr1
        obtain ⟨a, y, rfl, ha, hy, ok⟩ := id hn
        refine ⟨_, rfl, a, _, 0, _, rfl, rfl, SqT.of ha, rfl, _, rfl, by cases nd.k <;> cases key <;> rfl, _, rfl, ?_⟩
        rw [dec_kyV]
        by_cases hk : nd.k = key
        · rw [if_pos hk] at q
          exact eqB (decide_eq_true hk) ⟨_, rfl, a, _, 1, _, rfl, rfl, SqT.of ha, rfl, q.done fr2 V1 hy⟩
        · rw [if_neg hk] at q
          refine neB (decide_eq_false hk) ⟨_, rfl, a, _, 4, _, rfl, rfl, SqT.of ha, rfl, ?_⟩
          refine ⟨_, rfl, a, _, 3, _, rfl, rfl, SqT.of ha, rfl, ?_⟩
          refine ⟨_, rfl, _, rfl, a, _, 0, _, rfl, rfl, SqT.of ha, rfl, key, nd.k, rfl, _, rfl, ?_⟩
          by_cases hb : ahead key nd.k = true
          · rw [if_pos hb] at q
            exact eqB hb ⟨_, rfl, a, _, 2, _, rfl, rfl, SqT.of ha, rfl, st1, nd.l, nd.c, _, rfl, V1, fr2, q⟩
          · rw [if_neg hb] at q
            exact neB (by simpa using hb) ⟨st1, nd.r, nd.c, _, rfl, V1, fr2, q⟩
theorem c_need (T : Txt K mg) : Cal P w K mg base (L2.CX P w) 6 "need_counted" ["vault", "node"] (spNeed K) := by
  have G := c_size_beneath (P := P) (w := w) (base := base) T
  refine T.d_need_counted.cal (fun f fd F => F.okX sc_nc (fun vs H Q E h => ?_) (fun cdv A outer s H vs Q E hr h => ?_)) (fun _ _ _ _ _ _ us hl => match us, hl with | [_, _], _ => rfl)
  · obtain ⟨_, _, _, _, _, _, rfl, _⟩ := h
    rfl
  · obtain ⟨v, d, e, st, u, nd, rfl, hV, hn, h⟩ := h
    refine ⟨_, pss_cons (ps_set (i := 2) sc_nc.nd rfl (.inl rfl) (pe_cal G hr (passes_call (takes_of rfl rfl rfl rfl) (fun _ _ _ _ h => h)) (pa_cons (pv 0) (pa_cons (pe_ix ix_tup (pv 1) pe_int (fun _ _ => rfl)) (pa_cons (pe_ix ix_tup (pv 1) pe_int (fun _ _ => rfl)) pa_nil)))))
      (pss_cons (ps_set (i := 3) sc_nc.nd rfl (.inl rfl) (pe_cal G hr (passes_call (takes_of rfl rfl rfl rfl) (fun _ _ _ _ h => h)) (pa_cons (pv 0) (pa_cons (pe_ix ix_tup (pv 1) pe_int (fun _ _ => rfl)) (pa_cons (pe_ix ix_tup (pv 1) pe_int (fun _ _ => rfl)) pa_nil)))))
      (pss_one (ps_if (pt_cmpR op_ne (pe_op op_add (pe_op op_add (pv 2) (pv 3)) pe_int) (pe_ix ix_tup (pv 1) pe_int (fun _ _ => rfl)) (nomark _)) pss_never pss_nil))), ?_⟩
    obtain ⟨a, y, rfl, ha, hy, ok⟩ := id hn
    refine ⟨_, rfl, _, rfl, a, _, 2, _, rfl, rfl, SqT.of ha, rfl, _, rfl, a, _, 4, _, rfl, rfl, SqT.of ha, rfl, v, d, e, st, nd.l, nd.c, rfl, hV, ?_⟩
    unfold needP at h
    refine h.next (Fr.refl _ _ _) fun l st1 u1 H1 fr1 V1 r1 q1 => ?_
    cases r1
    have ha1 := hV.tk fr1 _ _ ha
    refine ⟨_, rfl, _, rfl, a, _, 3, _, rfl, rfl, SqT.of ha1, rfl, _, rfl, a, _, 4, _, rfl, rfl, SqT.of ha1, rfl, v, d, e, st1, nd.r, nd.c, rfl, V1, ?_⟩
    refine q1.next fr1 fun r st2 u2 H2 fr2 V2 r2 q2 => ?_
    cases r2
    have ha2 := V1.tk fr2 _ _ ha1
    refine ⟨_, rfl, _, rfl, _, _, rfl, rfl, _, _, rfl, rfl, _, rfl, a, _, 4, _, rfl, rfl, SqT.of ha2, rfl, rfl, _, rfl, ?_⟩
    rw [dec_int]
    by_cases hk : l + r + 1 = nd.c
    · rw [if_pos hk] at q2
      exact neB (by simp [hk]) (q2.done (fr1.trans fr2) V2 rfl)
    · rw [if_neg hk] at q2
      exact q2.bad.elim
end
end PV
set_option Elab.async false
set_option linter.all false
set_option maxRecDepth 100000
set_option maxHeartbeats 4000000
/-! Trees: counted, of a number. -/
namespace PV
open PySem PySem.Spec PyProof.Rows L2
theorem scal_ky (a b : Ky) : scal (kyV a) (kyV b) = true := by cases a <;> cases b <;> rfl
section
variable {P : Program} {w : World} {K : Frag} {mg : Str → Option Value} {base : Heap}
theorem sc_ao : FnScope ["vault", "root", "key", "many", "count", "node"] ["vault", "root", "key"] (defScope s_ahead_of) := ⟨rfl, rfl, rfl, by decide +kernel, rfl, by decide +kernel, by decide +kernel⟩
theorem sc_cd : FnScope ["vault", "root", "low", "high", "first"] ["vault", "root", "low", "high"] (defScope s_counted) := ⟨rfl, rfl, rfl, by decide +kernel, rfl, by decide +kernel, by decide +kernel⟩
theorem sc_nt : FnScope ["vault", "root", "number", "count", "node", "many"] ["vault", "root", "number"] (defScope s_nth) := ⟨rfl, rfl, rfl, by decide +kernel, rfl, by decide +kernel, by decide +kernel⟩
theorem c_ahead_of (T : Txt K mg) : Cal P w K mg base (L2.CX P w) 6 "ahead_of" ["vault", "root", "key"] (spAheadOf K) := by
  have G := c_node_beneath (P := P) (w := w) (base := base) T
  have GA := c_ahead (P := P) (w := w) (base := base) T
  have GS := c_size_beneath (P := P) (w := w) (base := base) T
  refine T.d_ahead_of.cal (fun f fd F => F.okX sc_ao (fun vs H Q E h => ?_) (fun cdv A outer s H vs Q E hr h => ?_)) (fun _ _ _ _ _ _ us hl => match us, hl with | [_, _, _], _ => rfl)
  · obtain ⟨_, _, _, _, _, _, rfl, _⟩ := h
    rfl
  · obtain ⟨v, d, e, st, root, key, rfl, hV, h⟩ := h
    have hr3 : Room 3 (A.deeper (envOfC "ahead_of" (defScope s_ahead_of) s.heap.objs.size f cdv)) := hr.mono (by decide)
    have hr4 : Room 4 (A.deeper (envOfC "ahead_of" (defScope s_ahead_of) s.heap.objs.size f cdv)) := hr.mono (by decide)
    refine ⟨_, pss_cons (ps_set (i := 3) sc_ao.nd rfl (.inl rfl) pe_int)
      (pss_cons (ps_set (i := 4) sc_ao.nd rfl (.inl rfl) (pe_gint T.i_UNBOUND))
      (pss_cons (ps_while (passes_of rfl) (pt_cmpR op_ne (pv 1) pe_int (nomark _))
        (pss_cons (ps_set (i := 5) sc_ao.nd rfl (.inl rfl) (pe_cal G hr4 (passes_call (takes_of rfl rfl rfl rfl) (fun _ _ _ _ h => h)) (pa_cons (pv 0) (pa_cons (pv 1) (pa_cons (pv 4) pa_nil)))))
        (pss_cons (ps_set (i := 4) sc_ao.nd rfl (.inl rfl) (pe_ix ix_tup (pv 5) pe_int (fun _ _ => rfl)))
        (pss_cons (ps_set (i := 1) sc_ao.nd rfl (.inl rfl) (pe_ix ix_tup (pv 5) pe_int (fun _ _ => rfl)))
        (pss_cons (ps_if (pt_cmpR op_eq (pe_ix ix_tup (pv 5) pe_int (fun _ _ => rfl)) (pv 2) (nomark _)) (pss_one (ps_ret (pe_op op_add (pv 3) (pe_cal GS hr (passes_call (takes_of rfl rfl rfl rfl) (fun _ _ _ _ h => h)) (pa_cons (pv 0) (pa_cons (pv 1) (pa_cons (pv 4) pa_nil))))))) pss_nil)
        (pss_one (ps_if (pt_val (pe_cal GA hr3 pass0 (pa_cons (pe_ix ix_tup (pv 5) pe_int (fun _ _ => rfl)) (pa_cons (pv 2) pa_nil))))
          (pss_cons (ps_set (i := 1) sc_ao.nd rfl (.inl rfl) (pe_ix ix_tup (pv 5) pe_int (fun _ _ => rfl)))
          (pss_one (ps_aug (i := 3) sc_ao.nd rfl (.inl rfl) (pe_op op_sub (pv 4) (pe_cal GS hr (passes_call (takes_of rfl rfl rfl rfl) (fun _ _ _ _ h => h)) (pa_cons (pv 0) (pa_cons (pv 1) (pa_cons (pv 4) pa_nil))))) ip_add))) pss_nil)))))))
      (pss_one (ps_ret (pv 3))))), ?_⟩
    refine ⟨fun m σ Hc => ∃ st root many c b, σ = [some (.ref v), some (.int root), some (kyV key), some (.int many), some (.int c), b] ∧ VAt K Hc v d e st ∧ Fr d e H Hc ∧ SpP K (aheadP m root key many c) RInt v d e st H Q E,
      ⟨fuelP, st, root, 0, 301, none, rfl, hV, Fr.refl _ _ _, h⟩, ?_⟩
    rintro m σ Hc ⟨st, root, many, c, b, rfl, hV, fr, h⟩
    cases m with
    | zero => exact h.bad.elim
    | succ m =>
      unfold aheadP at h
      refine ⟨_, rfl, rfl, _, rfl, ?_⟩
      rw [dec_int]
      by_cases h0 : root = 0
      · rw [if_pos h0] at h
        exact neB (by simp [h0]) ⟨_, rfl, h.done fr hV rfl⟩
      · rw [if_neg h0] at h
        refine eqB (by simp [h0]) ⟨fun σ' H' => ∃ st root many c b, σ' = [some (.ref v), some (.int root), some (kyV key), some (.int many), some (.int c), b] ∧ VAt K H' v d e st ∧ Fr d e H H' ∧ SpP K (aheadP m root key many c) RInt v d e st H Q E,
          fun σ' H' z => ⟨m, Nat.lt_succ_self _, z⟩, ?_⟩
        refine ⟨_, rfl, _, rfl, _, rfl, v, d, e, st, root, c, rfl, hV, h.next fr fun nd st1 u H1 fr1 V1 hn q => ?_⟩
        have fr2 := fr.trans fr1
        obtain ⟨a, y, rfl, ha, hy, ok⟩ := id hn
        refine ⟨_, rfl, a, _, 4, _, rfl, rfl, SqT.of ha, rfl, ?_⟩
        refine ⟨_, rfl, a, _, 2, _, rfl, rfl, SqT.of ha, rfl, ?_⟩
        refine ⟨_, rfl, a, _, 0, _, rfl, rfl, SqT.of ha, rfl, _, rfl, scal_ky _ _, _, rfl, ?_⟩
        rw [dec_kyV]
        by_cases hk : nd.k = key
        · rw [if_pos hk] at q
          refine eqB (decide_eq_true hk) ⟨_, rfl, _, rfl, _, rfl, _, rfl, v, d, e, st1, nd.l, nd.c, rfl, V1, q.next fr2 fun z st2 u2 H2 fr3 V2 r2 q2 => ?_⟩
          cases r2
          exact ⟨_, _, rfl, rfl, q2.done (fr2.trans fr3) V2 rfl⟩
        · rw [if_neg hk] at q
          refine neB (decide_eq_false hk) ⟨_, rfl, a, _, 0, _, rfl, rfl, SqT.of ha, rfl, _, rfl, nd.k, key, rfl, _, rfl, ?_⟩
          by_cases hb : ahead nd.k key = true
          · rw [if_pos hb] at q
            refine eqB hb ⟨_, rfl, a, _, 3, _, rfl, rfl, SqT.of ha, rfl, _, rfl, _, rfl, _, rfl, _, rfl, _, rfl, v, d, e, st1, nd.r, nd.c, rfl, V1, q.next fr2 fun z st2 u2 H2 fr3 V2 r2 q2 => ?_⟩
            cases r2
            exact ⟨_, _, rfl, rfl, _, _, rfl, rfl, st2, nd.r, _, nd.c, _, rfl, V2, fr2.trans fr3, q2⟩
          · rw [if_neg hb] at q
            exact neB (by simpa using hb) ⟨st1, nd.l, many, nd.c, _, rfl, V1, fr2, q⟩
theorem c_counted (T : Txt K mg) : Cal P w K mg base (L2.CX P w) 7 "counted" ["vault", "root", "low", "high"] (spCounted K) := by
  have G := c_ahead_of (P := P) (w := w) (base := base) T
  have GE := c_is_empty (P := P) (w := w) (base := base) T
  have GS := c_size (P := P) (w := w) (base := base) T
  refine T.d_counted.cal (fun f fd F => F.okX sc_cd (fun vs H Q E h => ?_) (fun cdv A outer s H vs Q E hr h => ?_)) (fun _ _ _ _ _ _ us hl => match us, hl with | [_, _, _, _], _ => rfl)
  · obtain ⟨_, _, _, _, _, _, _, rfl, _⟩ := h
    rfl
  · obtain ⟨v, d, e, st, root, lo, hi, rfl, hV, h⟩ := h
    have hr4 : Room 4 (A.deeper (envOfC "counted" (defScope s_counted) s.heap.objs.size f cdv)) := hr.mono (by decide)
    refine ⟨_, pss_cons (ps_if (pt_val (pe_cal GE hr4 pass0 (pa_cons (pv 2) (pa_cons (pv 3) pa_nil)))) (pss_one (ps_ret pe_int)) pss_nil)
      (pss_cons (ps_set (i := 4) sc_cd.nd rfl (.inl rfl) pe_int)
      (pss_cons (ps_if (pt_cmpR op_notN (pv 2) pe_non (nomark _)) (pss_one (ps_set (i := 4) sc_cd.nd rfl (.inl rfl) (pe_cal G hr (passes_call (takes_of rfl rfl rfl rfl) (fun _ _ _ _ h => h)) (pa_cons (pv 0) (pa_cons (pv 1) (pa_cons (pv 2) pa_nil)))))) pss_nil)
      (pss_cons (ps_if (pt_cmpR op_isN (pv 3) pe_non (nomark _)) (pss_one (ps_ret (pe_op op_sub (pe_cal GS hr4 (passes_call (takes_of rfl rfl rfl rfl) (fun _ _ _ _ h => h)) (pa_cons (pv 0) (pa_cons (pv 1) pa_nil))) (pv 4)))) pss_nil)
      (pss_one (ps_ret (pe_op op_sub (pe_cal G hr (passes_call (takes_of rfl rfl rfl rfl) (fun _ _ _ _ h => h)) (pa_cons (pv 0) (pa_cons (pv 1) (pa_cons (pv 3) pa_nil)))) (pv 4))))))), ?_⟩
    unfold countQ at h
    refine ⟨_, rfl, _, rfl, lo, hi, rfl, _, rfl, ?_⟩
    by_cases he : isEmpty lo hi = true
    · rw [if_pos he] at h
      exact eqB he (h.done (Fr.refl _ _ _) hV rfl)
    · rw [if_neg he] at h
      refine neB (by simpa using he) ?_
      have fin : ∀ first st1 H1, Fr d e H H1 → VAt K H1 v d e st1 → SpP K (lastQ root first hi) RInt v d e st1 H Q E →
          (∃ v', some (kyO hi) = some v' ∧ True) ∧ (match hi with
            | none => SpP K (sizeP root) RInt v d e st1 H1 (fun u H2 => ∃ z, u = .int z ∧ Q (.int (z - first)) H2) E
            | some b => SpP K (aheadQ root b) RInt v d e st1 H1 (fun u H2 => ∃ z, u = .int z ∧ Q (.int (z - first)) H2) E) := by
        intro first st1 H1 fr V1 q
        refine ⟨⟨_, rfl, trivial⟩, ?_⟩
        cases hi with
        | none => exact q.next fr fun z st2 u H2 fr2 V2 r2 q2 => ⟨z, r2, q2.done (fr.trans fr2) V2 rfl⟩
        | some b => exact q.next fr fun z st2 u H2 fr2 V2 r2 q2 => ⟨z, r2, q2.done (fr.trans fr2) V2 rfl⟩
      refine ⟨_, rfl, rfl, _, rfl, ?_⟩
      cases lo with
      | none =>
        refine neB (by rw [kyO_non]; rfl) ⟨_, rfl, rfl, _, rfl, ?_⟩
        have z := (fin 0 st H (Fr.refl _ _ _) hV h).2
        cases hi with
        | none =>
          refine eqB (by rw [kyO_non]; rfl) ⟨_, rfl, _, rfl, v, d, e, st, root, rfl, hV, z.mono (Fr.refl _ _ _) fun H2 u a _ r k => ?_⟩
          obtain ⟨z2, rfl, q2⟩ := k r
          exact ⟨_, rfl, _, _, rfl, rfl, q2⟩
        | some b =>
          refine neB (by rw [kyO_non]; rfl) ⟨_, rfl, _, rfl, _, rfl, v, d, e, st, root, b, rfl, hV, z.mono (Fr.refl _ _ _) fun H2 u a _ r k => ?_⟩
          obtain ⟨z2, rfl, q2⟩ := k r
          exact ⟨_, rfl, _, _, rfl, rfl, q2⟩
      | some a =>
        refine eqB (by rw [kyO_non]; rfl) ⟨_, rfl, _, rfl, _, rfl, v, d, e, st, root, a, rfl, hV, h.next (Fr.refl _ _ _) fun first st1 u1 H1 fr1 V1 r1 q1 => ?_⟩
        cases r1
        have z := (fin first st1 H1 fr1 V1 q1).2
        refine ⟨_, rfl, rfl, _, rfl, ?_⟩
        cases hi with
        | none =>
          refine eqB (by rw [kyO_non]; rfl) ⟨_, rfl, _, rfl, v, d, e, st1, root, rfl, V1, z.mono (Fr.refl _ _ _) fun H2 u a _ r k => ?_⟩
          obtain ⟨z2, rfl, q2⟩ := k r
          exact ⟨_, rfl, _, _, rfl, rfl, q2⟩
        | some b =>
          refine neB (by rw [kyO_non]; rfl) ⟨_, rfl, _, rfl, _, rfl, v, d, e, st1, root, b, rfl, V1, z.mono (Fr.refl _ _ _) fun H2 u a _ r k => ?_⟩
          obtain ⟨z2, rfl, q2⟩ := k r
          exact ⟨_, rfl, _, _, rfl, rfl, q2⟩
theorem c_nth (T : Txt K mg) : Cal P w K mg base (L2.CX P w) 6 "nth" ["vault", "root", "number"] (spNth K) := by
  have G := c_node_beneath (P := P) (w := w) (base := base) T
  have GS := c_size_beneath (P := P) (w := w) (base := base) T
  refine T.d_nth.cal (fun f fd F => F.okX sc_nt (fun vs H Q E h => ?_) (fun cdv A outer s H vs Q E hr h => ?_)) (fun _ _ _ _ _ _ us hl => match us, hl with | [_, _, _], _ => rfl)
  · obtain ⟨_, _, _, _, _, _, rfl, _⟩ := h
    rfl
  · obtain ⟨v, d, e, st, root, number, rfl, hV, h⟩ := h
    have hr4 : Room 4 (A.deeper (envOfC "nth" (defScope s_nth) s.heap.objs.size f cdv)) := hr.mono (by decide)
    refine ⟨_, pss_cons (ps_if (pt_cmpR op_lt (pv 2) pe_int (nomark _)) (pss_one (ps_ret pe_non)) pss_nil)
      (pss_cons (ps_set (i := 3) sc_nt.nd rfl (.inl rfl) (pe_gint T.i_UNBOUND))
      (pss_cons (ps_while (passes_of rfl) (pt_cmpR op_ne (pv 1) pe_int (nomark _))
        (pss_cons (ps_set (i := 4) sc_nt.nd rfl (.inl rfl) (pe_cal G hr4 (passes_call (takes_of rfl rfl rfl rfl) (fun _ _ _ _ h => h)) (pa_cons (pv 0) (pa_cons (pv 1) (pa_cons (pv 3) pa_nil)))))
        (pss_cons (ps_set (i := 3) sc_nt.nd rfl (.inl rfl) (pe_ix ix_tup (pv 4) pe_int (fun _ _ => rfl)))
        (pss_cons (ps_set (i := 5) sc_nt.nd rfl (.inl rfl) (pe_cal GS hr (passes_call (takes_of rfl rfl rfl rfl) (fun _ _ _ _ h => h)) (pa_cons (pv 0) (pa_cons (pe_ix ix_tup (pv 4) pe_int (fun _ _ => rfl)) (pa_cons (pv 3) pa_nil)))))
        (pss_cons (ps_if (pt_cmpR op_eq (pv 2) (pv 5) (nomark _)) (pss_one (ps_ret (pe_tup (pa_cons (pe_ix ix_tup (pv 4) pe_int (fun _ _ => rfl)) (pa_cons (pe_ix ix_tup (pv 4) pe_int (fun _ _ => rfl)) pa_nil))))) pss_nil)
        (pss_cons (ps_set (i := 1) sc_nt.nd rfl (.inl rfl) (pe_ix ix_tup (pv 4) pe_int (fun _ _ => rfl)))
        (pss_one (ps_if (pt_cmpR op_gt (pv 2) (pv 5) (nomark _))
          (pss_cons (ps_set (i := 1) sc_nt.nd rfl (.inl rfl) (pe_ix ix_tup (pv 4) pe_int (fun _ _ => rfl)))
          (pss_one (ps_aug (i := 2) sc_nt.nd rfl (.inl rfl) (pe_op op_add (pv 5) pe_int) ip_sub))) pss_nil))))))))
      (pss_one (ps_ret pe_non)))), ?_⟩
    unfold nthQ at h
    refine ⟨_, rfl, _, _, rfl, rfl, _, rfl, ?_⟩
    by_cases hn0 : number < 0
    · rw [if_pos hn0] at h
      exact eqB (decide_eq_true hn0) (h.done (Fr.refl _ _ _) hV rfl)
    rw [if_neg hn0] at h
    refine neB (decide_eq_false hn0) ?_
    refine ⟨fun m σ Hc => ∃ st root number c b1 b2, σ = [some (.ref v), some (.int root), some (.int number), some (.int c), b1, b2] ∧ VAt K Hc v d e st ∧ Fr d e H Hc ∧ SpP K (nthP m root number c) RPo v d e st H Q E,
      ⟨fuelP, st, root, number, 301, none, none, rfl, hV, Fr.refl _ _ _, h⟩, ?_⟩
    rintro m σ Hc ⟨st, root, number, c, b1, b2, rfl, hV, fr, h⟩
    cases m with
    | zero => exact h.bad.elim
    | succ m =>
      unfold nthP at h
      refine ⟨_, rfl, rfl, _, rfl, ?_⟩
      rw [dec_int]
      by_cases h0 : root = 0
      · rw [if_pos h0] at h
        exact neB (by simp [h0]) (h.done fr hV rfl)
      · rw [if_neg h0] at h
        refine eqB (by simp [h0]) ⟨fun σ' H' => ∃ st root number c b1 b2, σ' = [some (.ref v), some (.int root), some (.int number), some (.int c), b1, b2] ∧ VAt K H' v d e st ∧ Fr d e H H' ∧ SpP K (nthP m root number c) RPo v d e st H Q E,
          fun σ' H' z => ⟨m, Nat.lt_succ_self _, z⟩, ?_⟩
        refine ⟨_, rfl, _, rfl, _, rfl, v, d, e, st, root, c, rfl, hV, h.next fr fun nd st1 u H1 fr1 V1 hn q => ?_⟩
        have fr2 := fr.trans fr1
        obtain ⟨a, y, rfl, ha, hy, ok⟩ := id hn
        refine ⟨_, rfl, a, _, 4, _, rfl, rfl, SqT.of ha, rfl, ?_⟩
        refine ⟨_, rfl, _, rfl, a, _, 2, _, rfl, rfl, SqT.of ha, rfl, _, rfl, v, d, e, st1, nd.l, nd.c, rfl, V1, q.next fr2 fun mm st2 u2 H2 fr3 V2 r2 q2 => ?_⟩
        cases r2
        have ha2 := V1.tk fr3 _ _ ha
        have hy2 := hy.mono (V1.tk fr3)
        have fr4 := fr2.trans fr3
        refine ⟨_, rfl, _, rfl, rfl, _, rfl, ?_⟩
        rw [dec_int]
        by_cases hk : number = mm
        · rw [if_pos hk] at q2
          refine eqB (by simp [hk]) ⟨_, rfl, a, _, 0, _, rfl, rfl, SqT.of ha2, rfl, _, rfl, a, _, 1, _, rfl, rfl, SqT.of ha2, rfl, (by show 2 ≤ sizeLine; decide), fun p hp => ?_⟩
          have sm : Same H2 (L2.upd H2 p (.tup [kyV nd.k, y])) := same_upd (Same.refl _) hp
          exact q2.done (fr4.trans (Fr.of sm)) (V2.same sm) ⟨p, y, rfl, upd_same, hy2.mono (TK.of sm)⟩
        · rw [if_neg hk] at q2
          refine neB (by simp [hk]) ⟨_, rfl, a, _, 2, _, rfl, rfl, SqT.of ha2, rfl, _, rfl, _, rfl, _, _, rfl, rfl, _, rfl, ?_⟩
          by_cases hb : number > mm
          · rw [if_pos hb] at q2
            exact eqB (decide_eq_true hb) ⟨_, rfl, a, _, 3, _, rfl, rfl, SqT.of ha2, rfl, _, rfl, _, rfl, _, _, rfl, rfl, _, _, rfl, rfl, st2, nd.r, _, nd.c, _, _, rfl, V2, fr4, q2⟩
          · rw [if_neg hb] at q2
            exact neB (decide_eq_false hb) ⟨st2, nd.l, number, nd.c, _, _, rfl, V2, fr4, q2⟩
end
end PV
set_option Elab.async false
set_option linter.all false
set_option maxRecDepth 100000
set_option maxHeartbeats 4000000
/-! Trees: stretches. -/
namespace PV
open PySem PySem.Spec PyProof.Rows L2
/-- xs != [] -/
theorem op_neNil {X : Cx} (hu : X.A.units < cLine) : OpR X (compareOp .NotEq) (fun x y H Q => ∃ a b xs, x = .ref a ∧ y = .ref b ∧ SqL X.K H a xs ∧ SqL X.K H b [] ∧ Q (.bl (!xs.isEmpty)) H) := by
  intro pins s σ H x y v u Q I rx ry h
  obtain ⟨a, b, xs, rfl, rfl, ha, hb, q⟩ := h
  cases rx
  cases ry
  obtain ⟨i1, r1, p1, _⟩ := I.list ha
  obtain ⟨i2, r2, p2, _⟩ := I.list hb
  cases r2
  have l1 : s.heap.IsList a i1.toArray := by
    obtain ⟨o, m, e, c, d, z⟩ := p1
    exact ⟨o, e, c, m, z⟩
  have l2 : s.heap.IsList b #[] := by
    obtain ⟨o, m, e, c, d, z⟩ := p2
    exact ⟨o, e, c, m, z⟩
  cases r1 with
  | nil =>
    refine SeqAt.RcNeAt.lists (e := fun _ => true) l1 l2 rfl hu (fun j h1 _ => absurd h1 (Nat.not_lt_zero j)) X.prog X.w _ _ ?_
    exact ⟨.bl false, H, I, rfl, q⟩
  | cons h r =>
    refine SeqAt.RcNeAt.lists_lengths l1 l2 (by simp) hu X.prog X.w _ _ ?_
    exact ⟨.bl true, H, I, rfl, q⟩
def SItem (H : Hp) (u : V) : SI → Prop
  | .at_ r c => ∃ a, u = .ref a ∧ H a = some (.tup [.int r, .int c, .bl false])
  | .pr k y => ∃ a b, u = .ref a ∧ H a = some (.tup [b, .int 0, .bl true]) ∧ PrAt H b (k, y)
theorem SItem.mono {H H' : Hp} (k : TK H H') {u : V} : ∀ {i : SI}, SItem H u i → SItem H' u i
  | .at_ _ _, ⟨a, e, h⟩ => ⟨a, e, k _ _ h⟩
  | .pr _ _, ⟨a, b, e, h, p⟩ => ⟨a, b, e, k _ _ h, p.mono k⟩
def RPs (H0 H : Hp) (u : V) (l : List (Ky × Th)) : Prop := ∃ p ps, u = .ref p ∧ H0 p = none ∧ H p = some (.lst ps) ∧ Paired (PrAt H) ps l
structure SInv (K : Frag) (H : Hp) (v d e pl wl : Addr) (Hc : Hp) (st : VS) (us : List V) (stk : List SI) (acc : List (Ky × Th)) : Prop where
  vat : VAt K Hc v d e st
  fr : Fr d e H Hc
  prs : ∃ ps, Hc pl = some (.lst ps) ∧ Paired (PrAt Hc) ps acc
  wls : Hc wl = some (.lst us.reverse)
  its : Paired (SItem Hc) us stk
section
variable {K : Frag} {H Hc H1 : Hp} {v d e pl wl : Addr} {st st1 : VS} {us : List V} {stk : List SI} {acc : List (Ky × Th)}
theorem SInv.same (S : SInv K H v d e pl wl Hc st us stk acc) (s : Same Hc H1) : SInv K H v d e pl wl H1 st us stk acc := by
  obtain ⟨ps, h1, h2⟩ := S.prs
  exact ⟨S.vat.same s, S.fr.trans (Fr.of s), ⟨ps, s _ _ h1, paired_mono (fun _ _ z => z.mono (TK.of s)) h2⟩, s _ _ S.wls, paired_mono (fun _ _ z => z.mono (TK.of s)) S.its⟩
theorem SInv.call (S : SInv K H v d e pl wl Hc st us stk acc) (f : Fr d e Hc H1) (hV : VAt K H1 v d e st1) : SInv K H v d e pl wl H1 st1 us stk acc := by
  obtain ⟨ps, h1, h2⟩ := S.prs
  have tk := S.vat.tk f
  exact ⟨hV, S.fr.trans f, ⟨ps, S.vat.keep f h1 (fun _ z => nomatch z), paired_mono (fun _ _ z => z.mono tk) h2⟩, S.vat.keep f S.wls (fun _ z => nomatch z), paired_mono (fun _ _ z => z.mono tk) S.its⟩
theorem SInv.put (S : SInv K H v d e pl wl Hc st us stk acc) (hw : H wl = none) (hpw : pl ≠ wl) {us' : List V} {stk' : List SI} (h : Paired (SItem Hc) us' stk') : SInv K H v d e pl wl (L2.upd Hc wl (.lst us'.reverse)) st us' stk' acc := by
  obtain ⟨ps, h1, h2⟩ := S.prs
  have tk : TK Hc (L2.upd Hc wl (.lst us'.reverse)) := tk_lst S.wls
  exact ⟨S.vat.lst S.wls, S.fr.new hw, ⟨ps, by rw [upd_ne hpw]; exact h1, paired_mono (fun _ _ z => z.mono tk) h2⟩, upd_same, paired_mono (fun _ _ z => z.mono tk) h⟩
theorem SInv.app (S : SInv K H v d e pl wl Hc st us stk acc) (hw : H pl = none) (hpw : pl ≠ wl) {u : V} {p : Ky × Th} (h : PrAt Hc u p) : ∃ ps, Hc pl = some (.lst ps) ∧ ps.length = acc.length ∧ SInv K H v d e pl wl (L2.upd Hc pl (.lst (ps ++ [u]))) st us stk (acc ++ [p]) := by
  obtain ⟨ps, h1, h2⟩ := S.prs
  have tk : TK Hc (L2.upd Hc pl (.lst (ps ++ [u]))) := tk_lst h1
  exact ⟨ps, h1, Paired.length h2, S.vat.lst h1, S.fr.new hw, ⟨_, upd_same, paired_mono (fun _ _ z => z.mono tk) (Paired.snoc h2 h)⟩, by rw [upd_ne (Ne.symm hpw)]; exact S.wls, paired_mono (fun _ _ z => z.mono tk) S.its⟩
theorem SInv.push_at (S : SInv K H v d e pl wl Hc st us stk acc) (hw : H wl = none) (hpw : pl ≠ wl) (hl : us.length ≤ 400) {r c : Int} {p : Addr} (hp : Hc p = none) :
    (L2.upd Hc p (.tup [.int r, .int c, .bl false])) wl = some (.lst us.reverse) ∧ us.reverse.length < sizeLine ∧
      SInv K H v d e pl wl (L2.upd (L2.upd Hc p (.tup [.int r, .int c, .bl false])) wl (.lst (us.reverse ++ [.ref p]))) st (.ref p :: us) (.at_ r c :: stk) acc := by
  have sm : Same Hc (L2.upd Hc p (.tup [.int r, .int c, .bl false])) := same_upd (Same.refl _) hp
  have S1 := S.same sm
  refine ⟨S1.wls, ?_, ?_⟩
  · rw [List.length_reverse]
    exact Nat.lt_of_le_of_lt hl (by decide)
  · have z := S1.put hw hpw (us' := .ref p :: us) (stk' := .at_ r c :: stk) (.cons ⟨p, rfl, upd_same⟩ S1.its)
    rw [List.reverse_cons] at z
    exact z
theorem SInv.push_pr (S : SInv K H v d e pl wl Hc st us stk acc) (hw : H wl = none) (hpw : pl ≠ wl) (hl : us.length ≤ 400) {k : Ky} {y : V} {t : Th} (hy : ThA Hc y t) {p1 p : Addr} (h1 : Hc p1 = none) (hp : (L2.upd Hc p1 (.tup [kyV k, y])) p = none) :
    (L2.upd (L2.upd Hc p1 (.tup [kyV k, y])) p (.tup [.ref p1, .int 0, .bl true])) wl = some (.lst us.reverse) ∧ us.reverse.length < sizeLine ∧
      SInv K H v d e pl wl (L2.upd (L2.upd (L2.upd Hc p1 (.tup [kyV k, y])) p (.tup [.ref p1, .int 0, .bl true])) wl (.lst (us.reverse ++ [.ref p]))) st (.ref p :: us) (.pr k t :: stk) acc := by
  have sm1 : Same Hc (L2.upd Hc p1 (.tup [kyV k, y])) := same_upd (Same.refl _) h1
  have sm : Same Hc (L2.upd (L2.upd Hc p1 (.tup [kyV k, y])) p (.tup [.ref p1, .int 0, .bl true])) := same_upd sm1 (by
    cases z : Hc p with
    | none => rfl
    | some o => rw [sm1 _ _ z] at hp; cases hp)
  have S1 := S.same sm
  have ne : p1 ≠ p := fun z => by rw [← z, upd_same] at hp; cases hp
  refine ⟨S1.wls, ?_, ?_⟩
  · rw [List.length_reverse]
    exact Nat.lt_of_le_of_lt hl (by decide)
  · have z := S1.put hw hpw (us' := .ref p :: us) (stk' := .pr k t :: stk) (.cons ⟨p, .ref p1, rfl, upd_same, p1, y, rfl, by rw [upd_ne ne, upd_same], hy.mono (TK.of sm)⟩ S1.its)
    rw [List.reverse_cons] at z
    exact z
end
def spStretch (K : Frag) : Sp := fun vs H Q E => ∃ v d e st root lo hi, vs = [.ref v, .int root, kyO lo, kyO hi] ∧ VAt K H v d e st ∧ SpP K (stretchQ root lo hi) (RPs H) v d e st H Q E
section
variable {P : Program} {w : World} {K : Frag} {mg : Str → Option Value} {base : Heap}
theorem sc_st : FnScope ["vault", "root", "low", "high", "pairs", "waiting", "here", "count", "is_pair", "node"] ["vault", "root", "low", "high"] (defScope s_stretch) := ⟨rfl, rfl, rfl, by decide +kernel, rfl, by decide +kernel, by decide +kernel⟩
theorem c_stretch (T : Txt K mg) : Cal P w K mg base (L2.CX P w) 7 "stretch" ["vault", "root", "low", "high"] (spStretch K) := by
  have G := c_node_beneath (P := P) (w := w) (base := base) T
  have GE := c_is_empty (P := P) (w := w) (base := base) T
  have GN := c_need (P := P) (w := w) (base := base) T
  have GL := c_goes_left (P := P) (w := w) (base := base) T
  have GR := c_goes_right (P := P) (w := w) (base := base) T
  have GI := c_is_withinT (P := P) (w := w) (base := base) T
  refine T.d_stretch.cal (fun f fd F => F.okX sc_st (fun vs H Q E h => ?_) (fun cdv A outer s H vs Q E hr h => ?_)) (fun _ _ _ _ _ _ us hl => match us, hl with | [_, _, _, _], _ => rfl)
  · obtain ⟨_, _, _, _, _, _, _, rfl, _⟩ := h
    rfl
  · obtain ⟨v, d, e, st, root, lo, hi, rfl, hV, h⟩ := h
    have hr4 : Room 4 (A.deeper (envOfC "stretch" (defScope s_stretch) s.heap.objs.size f cdv)) := hr.mono (by decide)
    have hr5 : Room 5 (A.deeper (envOfC "stretch" (defScope s_stretch) s.heap.objs.size f cdv)) := hr.mono (by decide)
    refine ⟨_, pss_cons (ps_set (i := 4) sc_st.nd rfl (.inl rfl) (pe_lst pa_nil))
      (pss_cons (ps_if (pt_val (pe_cal GE hr4 pass0 (pa_cons (pv 2) (pa_cons (pv 3) pa_nil)))) (pss_one (ps_ret (pv 4))) pss_nil)
      (pss_cons (ps_set (i := 5) sc_st.nd rfl (.inl rfl) (pe_lst (pa_cons (pe_tup (pa_cons (pv 1) (pa_cons (pe_gint T.i_UNBOUND) (pa_cons pe_bl pa_nil)))) pa_nil)))
      (pss_cons (ps_while (passes_of rfl) (pt_cmpR (op_neNil hr.units0) (pv 5) (pe_lst pa_nil) (nomark _))
        (pss_cons (ps_asg (pe_bm0 PySem.F.plainAttrs_list PySem.F.slot_list_pop PySem.F.type_list_pop mt_pop (pv 5)) (pg_tup rfl (pgs_cons (pg_name (i := 6) sc_st.nd rfl (.inl rfl)) (pgs_cons (pg_name (i := 7) sc_st.nd rfl (.inl rfl)) (pgs_cons (pg_name (i := 8) sc_st.nd rfl (.inl rfl)) pgs_nil)))))
        (pss_one (ps_if (pt_val (pv 8)) (pss_one (ps_expr (pe_bm PySem.F.plainAttrs_list PySem.F.slot_list_append PySem.F.type_list_append mt_append (pv 4) (pa_cons (pv 6) pa_nil))))
          (pss_one (ps_if (pt_cmpR op_ne (pv 6) pe_int (nomark _))
            (pss_cons (ps_set (i := 9) sc_st.nd rfl (.inl rfl) (pe_cal G hr4 (passes_call (takes_of rfl rfl rfl rfl) (fun _ _ _ _ h => h)) (pa_cons (pv 0) (pa_cons (pv 6) (pa_cons (pv 7) pa_nil)))))
            (pss_cons (ps_if (PW.pt (pw_and (pt_val (pe_cal GL hr4 pass0 (pa_cons (pv 2) (pa_cons (pe_ix ix_tup (pv 9) pe_int (fun _ _ => rfl)) pa_nil)))) (pw_and1 (pt_val (pe_cal GR hr4 pass0 (pa_cons (pv 3) (pa_cons (pe_ix ix_tup (pv 9) pe_int (fun _ _ => rfl)) pa_nil)))))))
              (pss_one (ps_expr (pe_cal GN hr (passes_call (takes_of rfl rfl rfl rfl) (fun _ _ _ _ h => h)) (pa_cons (pv 0) (pa_cons (pv 9) pa_nil))))) pss_nil)
            (pss_cons (ps_if (pt_val (pe_cal GR hr4 pass0 (pa_cons (pv 3) (pa_cons (pe_ix ix_tup (pv 9) pe_int (fun _ _ => rfl)) pa_nil)))) (pss_one (ps_expr (pe_bm PySem.F.plainAttrs_list PySem.F.slot_list_append PySem.F.type_list_append mt_append (pv 5) (pa_cons (pe_tup (pa_cons (pe_ix ix_tup (pv 9) pe_int (fun _ _ => rfl)) (pa_cons (pe_ix ix_tup (pv 9) pe_int (fun _ _ => rfl)) (pa_cons pe_bl pa_nil)))) pa_nil)))) pss_nil)
            (pss_cons (ps_if (pt_val (pe_cal GI hr5 pass0 (pa_cons (pv 2) (pa_cons (pv 3) (pa_cons (pe_ix ix_tup (pv 9) pe_int (fun _ _ => rfl)) pa_nil))))) (pss_one (ps_expr (pe_bm PySem.F.plainAttrs_list PySem.F.slot_list_append PySem.F.type_list_append mt_append (pv 5) (pa_cons (pe_tup (pa_cons (pe_tup (pa_cons (pe_ix ix_tup (pv 9) pe_int (fun _ _ => rfl)) (pa_cons (pe_ix ix_tup (pv 9) pe_int (fun _ _ => rfl)) pa_nil))) (pa_cons pe_int (pa_cons pe_bl pa_nil)))) pa_nil)))) pss_nil)
            (pss_one (ps_if (pt_val (pe_cal GL hr4 pass0 (pa_cons (pv 2) (pa_cons (pe_ix ix_tup (pv 9) pe_int (fun _ _ => rfl)) pa_nil)))) (pss_one (ps_expr (pe_bm PySem.F.plainAttrs_list PySem.F.slot_list_append PySem.F.type_list_append mt_append (pv 5) (pa_cons (pe_tup (pa_cons (pe_ix ix_tup (pv 9) pe_int (fun _ _ => rfl)) (pa_cons (pe_ix ix_tup (pv 9) pe_int (fun _ _ => rfl)) (pa_cons pe_bl pa_nil)))) pa_nil)))) pss_nil)))))) pss_nil))))))
      (pss_one (ps_ret (pv 4)))))), ?_⟩
    unfold stretchQ at h
    refine ⟨Nat.zero_le _, fun pl hpl => ?_⟩
    refine ⟨_, rfl, _, rfl, lo, hi, rfl, _, rfl, ?_⟩
    have sm0 : Same H (L2.upd H pl (.lst [])) := same_upd (Same.refl _) hpl
    by_cases he : isEmpty lo hi = true
    · rw [if_pos he] at h
      exact eqB he ⟨_, rfl, h.done (Fr.of sm0) (hV.same sm0) ⟨pl, [], rfl, hpl, upd_same, .nil⟩⟩
    rw [if_neg he] at h
    refine neB (by simpa using he) ⟨_, rfl, (by show 3 ≤ sizeLine; decide), fun p0 hp0 => ⟨(by show 1 ≤ sizeLine; decide), fun wl hwl => ?_⟩⟩
    have sm1 : Same (L2.upd H pl (.lst [])) (L2.upd (L2.upd H pl (.lst [])) p0 (.tup [.int root, .int 301, .bl false])) := same_upd (Same.refl _) hp0
    have sm2 := same_upd (o := .lst [.ref p0]) sm1 (by
      cases z : (L2.upd H pl (.lst [])) wl with
      | none => rfl
      | some o => rw [sm1 _ _ z] at hwl; cases hwl)
    have sm3 := sm0.trans sm2
    have hpw : pl ≠ wl := fun z => by rw [← z, sm1 _ _ upd_same] at hwl; cases hwl
    have hw : H wl = none := by
      cases z : H wl with
      | none => rfl
      | some o => rw [(sm0.trans sm1) _ _ z] at hwl; cases hwl
    have hp0w : p0 ≠ wl := fun z => by rw [← z, upd_same] at hwl; cases hwl
    have S0 : SInv K H v d e pl wl (L2.upd (L2.upd (L2.upd H pl (.lst [])) p0 (.tup [.int root, .int 301, .bl false])) wl (.lst [.ref p0])) st [.ref p0] [.at_ root 301] [] :=
      ⟨hV.same sm3, Fr.of sm3, ⟨[], sm2 _ _ upd_same, .nil⟩, upd_same, .cons ⟨p0, rfl, by rw [upd_ne hp0w, upd_same]⟩ .nil⟩
    refine ⟨fun m σ Hc => ∃ st stk acc us b6 b7 b8 b9, σ = [some (.ref v), some (.int root), some (kyO lo), some (kyO hi), some (.ref pl), some (.ref wl), b6, b7, b8, b9] ∧ SInv K H v d e pl wl Hc st us stk acc ∧ acc.length + m ≤ 100 ∧ us.length + 3 * m ≤ 301 ∧ SpP K (stretchP m lo hi stk acc) (RPs H) v d e st H Q E,
      ⟨fuelS, st, [.at_ root 301], [], [.ref p0], none, none, none, none, rfl, S0, (by decide), (by show 1 + 3 * 100 ≤ 301; decide), h⟩, ?_⟩
    rintro m σ Hc ⟨st, stk, acc, us, b6, b7, b8, b9, rfl, S, hm1, hm2, h⟩
    cases m with
    | zero => exact h.bad.elim
    | succ m =>
      refine ⟨_, rfl, Nat.zero_le _, fun pe hpe => ⟨wl, pe, us.reverse, rfl, rfl, SqL.of ((S.same (same_upd (Same.refl _) hpe)).wls), SqL.of upd_same, _, rfl, ?_⟩⟩
      have S1 := S.same (same_upd (o := .lst []) (Same.refl _) hpe)
      cases stk with
      | nil =>
        have e0 : us = [] := by cases S.its; rfl
        subst e0
        unfold stretchP at h
        refine iteF ⟨_, rfl, h.done S1.fr S1.vat ?_⟩
        obtain ⟨ps, h1, h2⟩ := S1.prs
        exact ⟨pl, ps, rfl, hpl, h1, h2⟩
      | cons it stk =>
        obtain ⟨u, us', rfl, hit, hits⟩ : ∃ u us', us = u :: us' ∧ SItem Hc u it ∧ Paired (SItem Hc) us' stk := by
          cases S.its with
          | cons a b => exact ⟨_, _, rfl, a, b⟩
        have sme : Same Hc (L2.upd Hc pe (.lst [])) := same_upd (Same.refl _) hpe
        have hlu : us'.length + 3 * m ≤ 297 := by
          rw [List.length_cons] at hm2
          omega
        have S2 := S1.put hw hpw (us' := us') (stk' := stk) (paired_mono (fun _ _ z => z.mono (TK.of sme)) hits)
        have tk2 : TK Hc (L2.upd (L2.upd Hc pe (.lst [])) wl (.lst us'.reverse)) := (TK.of sme).trans (tk_lst S1.wls)
        have hit2 := hit.mono tk2
        refine eqB (by simp) ⟨fun σ' H' => ∃ st stk acc us b6 b7 b8 b9, σ' = [some (.ref v), some (.int root), some (kyO lo), some (kyO hi), some (.ref pl), some (.ref wl), b6, b7, b8, b9] ∧ SInv K H v d e pl wl H' st us stk acc ∧ acc.length + m ≤ 100 ∧ us.length + 3 * m ≤ 301 ∧ SpP K (stretchP m lo hi stk acc) (RPs H) v d e st H Q E,
          fun σ' H' z => ⟨m, Nat.lt_succ_self _, z⟩, ?_⟩
        refine ⟨_, rfl, .inl ⟨rfl, _, SqL.of S1.wls⟩, wl, _, u, rfl, rfl, S1.wls, ?_, ?_⟩
        · rw [List.reverse_cons, List.length_append, List.length_reverse, List.getElem?_append_right (by rw [List.length_reverse]; simp), List.length_reverse]
          simp
        rw [List.reverse_cons, List.dropLast_concat]
        cases it with
        | pr k y =>
          obtain ⟨a, b, rfl, ha, hb⟩ := hit2
          unfold stretchP at h
          refine ⟨a, _, rfl, SqT.of ha, rfl, _, _, rfl, _, _, rfl, _, _, rfl, rfl, ?_⟩
          obtain ⟨ps, h1, h2, S3⟩ := S2.app hpl hpw hb
          refine ⟨_, rfl, _, rfl, iteT ⟨_, rfl, .inl ⟨rfl, _, SqL.of h1⟩, _, rfl, pl, ps, _, rfl, rfl, h1, ?_, ?_⟩⟩
          · exact Nat.lt_of_le_of_lt (show ps.length ≤ 100 by omega) (by decide)
          · exact ⟨st, stk, acc ++ [(k, y)], us', _, _, _, _, rfl, S3, by rw [List.length_append, List.length_cons, List.length_nil]; omega, by omega, h⟩
        | at_ r c =>
          obtain ⟨a, rfl, ha⟩ := hit2
          unfold stretchP at h
          refine ⟨a, _, rfl, SqT.of ha, rfl, _, _, rfl, _, _, rfl, _, _, rfl, rfl, ?_⟩
          refine ⟨_, rfl, _, rfl, iteF ⟨_, rfl, rfl, _, rfl, ?_⟩⟩
          rw [dec_int]
          by_cases h0 : r = 0
          · rw [if_pos h0] at h
            exact neB (by simp [h0]) ⟨st, stk, acc, us', _, _, _, _, rfl, S2, by omega, by omega, h⟩
          rw [if_neg h0] at h
          refine eqB (by simp [h0]) ⟨_, rfl, _, rfl, _, rfl, v, d, e, st, r, c, rfl, S2.vat, h.next S2.fr fun nd st3 u3 H3 fr3 V3 hn q => ?_⟩
          have S3 := S2.call fr3 V3
          obtain ⟨a3, y, rfl, ha3, hy, ok⟩ := id hn
          have hl3 : us'.length ≤ 297 := by omega
          cases hL : goesL lo nd.k with
          | false =>
            cases hR : goesR hi nd.k with
            | false =>
              rw [hL, hR] at q
              refine ⟨_, rfl, _, rfl, a3, _, 0, _, rfl, rfl, SqT.of ha3, rfl, lo, nd.k, rfl, _, rfl, ?_⟩
              refine neB hL (iteF ?_)
              replace q : SpP K (stretchP m lo hi (pushed lo hi nd stk) acc) (RPs H) v d e st3 H Q E := q
              unfold pushed at q
              rw [hL, hR] at q
              cases hI : isIn lo hi nd.k with
              | false =>
                rw [hI] at q
                refine ⟨_, rfl, _, rfl, a3, _, 0, _, rfl, rfl, SqT.of ha3, rfl, hi, nd.k, rfl, _, rfl, ?_⟩
                refine neB hR ?_
                refine ⟨_, rfl, _, rfl, _, rfl, a3, _, 0, _, rfl, rfl, SqT.of ha3, rfl, lo, hi, nd.k, rfl, _, rfl, ?_⟩
                refine neB hI ?_
                refine ⟨_, rfl, _, rfl, a3, _, 0, _, rfl, rfl, SqT.of ha3, rfl, lo, nd.k, rfl, _, rfl, ?_⟩
                refine neB hL ?_
                exact ⟨_, _, acc, _, _, _, _, _, rfl, S3, by omega, (by first | omega | (simp only [List.length_cons]; omega)), q⟩
              | true =>
                rw [hI] at q
                refine ⟨_, rfl, _, rfl, a3, _, 0, _, rfl, rfl, SqT.of ha3, rfl, hi, nd.k, rfl, _, rfl, ?_⟩
                refine neB hR ?_
                refine ⟨_, rfl, _, rfl, _, rfl, a3, _, 0, _, rfl, rfl, SqT.of ha3, rfl, lo, hi, nd.k, rfl, _, rfl, ?_⟩
                refine eqB hI ⟨_, rfl, .inl ⟨rfl, _, SqL.of S3.wls⟩, _, rfl, a3, _, 0, _, rfl, rfl, SqT.of ha3, rfl, _, rfl, a3, _, 1, _, rfl, rfl, SqT.of ha3, rfl, (by show 2 ≤ sizeLine; decide), fun r2 hr2 => ⟨(by show 3 ≤ sizeLine; decide), fun p1 hp1 => ?_⟩⟩
                obtain ⟨wp1, lp1, S3x⟩ := S3.push_pr hw hpw (by first | omega | (simp only [List.length_cons]; omega)) hy hr2 hp1
                have tkp1 : TK H3 _ := ((TK.of (same_upd (Same.refl _) hr2)).trans (TK.of (same_upd (Same.refl _) hp1))).trans (tk_lst (ys := us'.reverse ++ [V.ref p1]) wp1)
                have hap1 := tkp1 _ _ ha3
                have hyp1 := hy.mono tkp1
                refine ⟨wl, _, _, rfl, rfl, wp1, lp1, ?_⟩
                refine ⟨_, rfl, _, rfl, a3, _, 0, _, rfl, rfl, SqT.of hap1, rfl, lo, nd.k, rfl, _, rfl, ?_⟩
                refine neB hL ?_
                exact ⟨_, _, acc, _, _, _, _, _, rfl, S3x, by omega, (by first | omega | (simp only [List.length_cons]; omega)), q⟩
            | true =>
              rw [hL, hR] at q
              refine ⟨_, rfl, _, rfl, a3, _, 0, _, rfl, rfl, SqT.of ha3, rfl, lo, nd.k, rfl, _, rfl, ?_⟩
              refine neB hL (iteF ?_)
              replace q : SpP K (stretchP m lo hi (pushed lo hi nd stk) acc) (RPs H) v d e st3 H Q E := q
              unfold pushed at q
              rw [hL, hR] at q
              cases hI : isIn lo hi nd.k with
              | false =>
                rw [hI] at q
                refine ⟨_, rfl, _, rfl, a3, _, 0, _, rfl, rfl, SqT.of ha3, rfl, hi, nd.k, rfl, _, rfl, ?_⟩
                refine eqB hR ⟨_, rfl, .inl ⟨rfl, _, SqL.of S3.wls⟩, _, rfl, a3, _, 3, _, rfl, rfl, SqT.of ha3, rfl, _, rfl, a3, _, 4, _, rfl, rfl, SqT.of ha3, rfl, (by show 3 ≤ sizeLine; decide), fun p4 hp4 => ?_⟩
                obtain ⟨wp4, lp4, S5x⟩ := S3.push_at hw hpw (by first | omega | (simp only [List.length_cons]; omega)) hp4
                have tkp4 : TK H3 _ := (TK.of (same_upd (Same.refl _) hp4)).trans (tk_lst (ys := us'.reverse ++ [V.ref p4]) wp4)
                have hap4 := tkp4 _ _ ha3
                have hyp4 := hy.mono tkp4
                refine ⟨wl, _, _, rfl, rfl, wp4, lp4, ?_⟩
                refine ⟨_, rfl, _, rfl, _, rfl, a3, _, 0, _, rfl, rfl, SqT.of hap4, rfl, lo, hi, nd.k, rfl, _, rfl, ?_⟩
                refine neB hI ?_
                refine ⟨_, rfl, _, rfl, a3, _, 0, _, rfl, rfl, SqT.of hap4, rfl, lo, nd.k, rfl, _, rfl, ?_⟩
                refine neB hL ?_
                exact ⟨_, _, acc, _, _, _, _, _, rfl, S5x, by omega, (by first | omega | (simp only [List.length_cons]; omega)), q⟩
              | true =>
                rw [hI] at q
                refine ⟨_, rfl, _, rfl, a3, _, 0, _, rfl, rfl, SqT.of ha3, rfl, hi, nd.k, rfl, _, rfl, ?_⟩
                refine eqB hR ⟨_, rfl, .inl ⟨rfl, _, SqL.of S3.wls⟩, _, rfl, a3, _, 3, _, rfl, rfl, SqT.of ha3, rfl, _, rfl, a3, _, 4, _, rfl, rfl, SqT.of ha3, rfl, (by show 3 ≤ sizeLine; decide), fun p6 hp6 => ?_⟩
                obtain ⟨wp6, lp6, S7x⟩ := S3.push_at hw hpw (by first | omega | (simp only [List.length_cons]; omega)) hp6
                have tkp6 : TK H3 _ := (TK.of (same_upd (Same.refl _) hp6)).trans (tk_lst (ys := us'.reverse ++ [V.ref p6]) wp6)
                have hap6 := tkp6 _ _ ha3
                have hyp6 := hy.mono tkp6
                refine ⟨wl, _, _, rfl, rfl, wp6, lp6, ?_⟩
                refine ⟨_, rfl, _, rfl, _, rfl, a3, _, 0, _, rfl, rfl, SqT.of hap6, rfl, lo, hi, nd.k, rfl, _, rfl, ?_⟩
                refine eqB hI ⟨_, rfl, .inl ⟨rfl, _, SqL.of S7x.wls⟩, _, rfl, a3, _, 0, _, rfl, rfl, SqT.of hap6, rfl, _, rfl, a3, _, 1, _, rfl, rfl, SqT.of hap6, rfl, (by show 2 ≤ sizeLine; decide), fun r9 hr9 => ⟨(by show 3 ≤ sizeLine; decide), fun p8 hp8 => ?_⟩⟩
                obtain ⟨wp8, lp8, S10x⟩ := S7x.push_pr hw hpw (by first | omega | (simp only [List.length_cons]; omega)) hyp6 hr9 hp8
                have tkp8 : TK _ _ := ((TK.of (same_upd (Same.refl _) hr9)).trans (TK.of (same_upd (Same.refl _) hp8))).trans (tk_lst (ys := (V.ref p6 :: us').reverse ++ [V.ref p8]) wp8)
                have hap8 := tkp8 _ _ hap6
                have hyp8 := hyp6.mono tkp8
                refine ⟨wl, _, _, rfl, rfl, wp8, lp8, ?_⟩
                refine ⟨_, rfl, _, rfl, a3, _, 0, _, rfl, rfl, SqT.of hap8, rfl, lo, nd.k, rfl, _, rfl, ?_⟩
                refine neB hL ?_
                exact ⟨_, _, acc, _, _, _, _, _, rfl, S10x, by omega, (by first | omega | (simp only [List.length_cons]; omega)), q⟩
          | true =>
            cases hR : goesR hi nd.k with
            | false =>
              rw [hL, hR] at q
              refine ⟨_, rfl, _, rfl, a3, _, 0, _, rfl, rfl, SqT.of ha3, rfl, lo, nd.k, rfl, _, rfl, ?_⟩
              refine eqB hL ⟨_, rfl, _, rfl, a3, _, 0, _, rfl, rfl, SqT.of ha3, rfl, hi, nd.k, rfl, _, rfl, ?_⟩
              refine neB hR ?_
              replace q : SpP K (stretchP m lo hi (pushed lo hi nd stk) acc) (RPs H) v d e st3 H Q E := q
              unfold pushed at q
              rw [hL, hR] at q
              cases hI : isIn lo hi nd.k with
              | false =>
                rw [hI] at q
                refine ⟨_, rfl, _, rfl, a3, _, 0, _, rfl, rfl, SqT.of ha3, rfl, hi, nd.k, rfl, _, rfl, ?_⟩
                refine neB hR ?_
                refine ⟨_, rfl, _, rfl, _, rfl, a3, _, 0, _, rfl, rfl, SqT.of ha3, rfl, lo, hi, nd.k, rfl, _, rfl, ?_⟩
                refine neB hI ?_
                refine ⟨_, rfl, _, rfl, a3, _, 0, _, rfl, rfl, SqT.of ha3, rfl, lo, nd.k, rfl, _, rfl, ?_⟩
                refine eqB hL ⟨_, rfl, .inl ⟨rfl, _, SqL.of S3.wls⟩, _, rfl, a3, _, 2, _, rfl, rfl, SqT.of ha3, rfl, _, rfl, a3, _, 4, _, rfl, rfl, SqT.of ha3, rfl, (by show 3 ≤ sizeLine; decide), fun p11 hp11 => ?_⟩
                obtain ⟨wp11, lp11, S12x⟩ := S3.push_at hw hpw (by first | omega | (simp only [List.length_cons]; omega)) hp11
                have tkp11 : TK H3 _ := (TK.of (same_upd (Same.refl _) hp11)).trans (tk_lst (ys := us'.reverse ++ [V.ref p11]) wp11)
                have hap11 := tkp11 _ _ ha3
                have hyp11 := hy.mono tkp11
                refine ⟨wl, _, _, rfl, rfl, wp11, lp11, ?_⟩
                exact ⟨_, _, acc, _, _, _, _, _, rfl, S12x, by omega, (by first | omega | (simp only [List.length_cons]; omega)), q⟩
              | true =>
                rw [hI] at q
                refine ⟨_, rfl, _, rfl, a3, _, 0, _, rfl, rfl, SqT.of ha3, rfl, hi, nd.k, rfl, _, rfl, ?_⟩
                refine neB hR ?_
                refine ⟨_, rfl, _, rfl, _, rfl, a3, _, 0, _, rfl, rfl, SqT.of ha3, rfl, lo, hi, nd.k, rfl, _, rfl, ?_⟩
                refine eqB hI ⟨_, rfl, .inl ⟨rfl, _, SqL.of S3.wls⟩, _, rfl, a3, _, 0, _, rfl, rfl, SqT.of ha3, rfl, _, rfl, a3, _, 1, _, rfl, rfl, SqT.of ha3, rfl, (by show 2 ≤ sizeLine; decide), fun r14 hr14 => ⟨(by show 3 ≤ sizeLine; decide), fun p13 hp13 => ?_⟩⟩
                obtain ⟨wp13, lp13, S15x⟩ := S3.push_pr hw hpw (by first | omega | (simp only [List.length_cons]; omega)) hy hr14 hp13
                have tkp13 : TK H3 _ := ((TK.of (same_upd (Same.refl _) hr14)).trans (TK.of (same_upd (Same.refl _) hp13))).trans (tk_lst (ys := us'.reverse ++ [V.ref p13]) wp13)
                have hap13 := tkp13 _ _ ha3
                have hyp13 := hy.mono tkp13
                refine ⟨wl, _, _, rfl, rfl, wp13, lp13, ?_⟩
                refine ⟨_, rfl, _, rfl, a3, _, 0, _, rfl, rfl, SqT.of hap13, rfl, lo, nd.k, rfl, _, rfl, ?_⟩
                refine eqB hL ⟨_, rfl, .inl ⟨rfl, _, SqL.of S15x.wls⟩, _, rfl, a3, _, 2, _, rfl, rfl, SqT.of hap13, rfl, _, rfl, a3, _, 4, _, rfl, rfl, SqT.of hap13, rfl, (by show 3 ≤ sizeLine; decide), fun p16 hp16 => ?_⟩
                obtain ⟨wp16, lp16, S17x⟩ := S15x.push_at hw hpw (by first | omega | (simp only [List.length_cons]; omega)) hp16
                have tkp16 : TK _ _ := (TK.of (same_upd (Same.refl _) hp16)).trans (tk_lst (ys := (V.ref p13 :: us').reverse ++ [V.ref p16]) wp16)
                have hap16 := tkp16 _ _ hap13
                have hyp16 := hyp13.mono tkp16
                refine ⟨wl, _, _, rfl, rfl, wp16, lp16, ?_⟩
                exact ⟨_, _, acc, _, _, _, _, _, rfl, S17x, by omega, (by first | omega | (simp only [List.length_cons]; omega)), q⟩
            | true =>
              rw [hL, hR] at q
              refine ⟨_, rfl, _, rfl, a3, _, 0, _, rfl, rfl, SqT.of ha3, rfl, lo, nd.k, rfl, _, rfl, ?_⟩
              refine eqB hL ⟨_, rfl, _, rfl, a3, _, 0, _, rfl, rfl, SqT.of ha3, rfl, hi, nd.k, rfl, _, rfl, ?_⟩
              refine eqB hR ⟨_, rfl, _, rfl, v, d, e, st3, .ref a3, nd, rfl, V3, hn, q.next S3.fr fun _ st5 u5 H5 fr5 V5 r5 q5 => ?_⟩
              have S5 := S3.call fr5 V5
              have ha5 := V3.tk fr5 _ _ ha3
              have hy5 := hy.mono (V3.tk fr5)
              replace q5 : SpP K (stretchP m lo hi (pushed lo hi nd stk) acc) (RPs H) v d e st5 H Q E := q5
              unfold pushed at q5
              rw [hL, hR] at q5
              cases hI : isIn lo hi nd.k with
              | false =>
                rw [hI] at q5
                refine ⟨_, rfl, _, rfl, a3, _, 0, _, rfl, rfl, SqT.of ha5, rfl, hi, nd.k, rfl, _, rfl, ?_⟩
                refine eqB hR ⟨_, rfl, .inl ⟨rfl, _, SqL.of S5.wls⟩, _, rfl, a3, _, 3, _, rfl, rfl, SqT.of ha5, rfl, _, rfl, a3, _, 4, _, rfl, rfl, SqT.of ha5, rfl, (by show 3 ≤ sizeLine; decide), fun p18 hp18 => ?_⟩
                obtain ⟨wp18, lp18, S19x⟩ := S5.push_at hw hpw (by first | omega | (simp only [List.length_cons]; omega)) hp18
                have tkp18 : TK H5 _ := (TK.of (same_upd (Same.refl _) hp18)).trans (tk_lst (ys := us'.reverse ++ [V.ref p18]) wp18)
                have hap18 := tkp18 _ _ ha5
                have hyp18 := hy5.mono tkp18
                refine ⟨wl, _, _, rfl, rfl, wp18, lp18, ?_⟩
                refine ⟨_, rfl, _, rfl, _, rfl, a3, _, 0, _, rfl, rfl, SqT.of hap18, rfl, lo, hi, nd.k, rfl, _, rfl, ?_⟩
                refine neB hI ?_
                refine ⟨_, rfl, _, rfl, a3, _, 0, _, rfl, rfl, SqT.of hap18, rfl, lo, nd.k, rfl, _, rfl, ?_⟩
                refine eqB hL ⟨_, rfl, .inl ⟨rfl, _, SqL.of S19x.wls⟩, _, rfl, a3, _, 2, _, rfl, rfl, SqT.of hap18, rfl, _, rfl, a3, _, 4, _, rfl, rfl, SqT.of hap18, rfl, (by show 3 ≤ sizeLine; decide), fun p20 hp20 => ?_⟩
                obtain ⟨wp20, lp20, S21x⟩ := S19x.push_at hw hpw (by first | omega | (simp only [List.length_cons]; omega)) hp20
                have tkp20 : TK _ _ := (TK.of (same_upd (Same.refl _) hp20)).trans (tk_lst (ys := (V.ref p18 :: us').reverse ++ [V.ref p20]) wp20)
                have hap20 := tkp20 _ _ hap18
                have hyp20 := hyp18.mono tkp20
                refine ⟨wl, _, _, rfl, rfl, wp20, lp20, ?_⟩
                exact ⟨_, _, acc, _, _, _, _, _, rfl, S21x, by omega, (by first | omega | (simp only [List.length_cons]; omega)), q5⟩
              | true =>
                rw [hI] at q5
                refine ⟨_, rfl, _, rfl, a3, _, 0, _, rfl, rfl, SqT.of ha5, rfl, hi, nd.k, rfl, _, rfl, ?_⟩
                refine eqB hR ⟨_, rfl, .inl ⟨rfl, _, SqL.of S5.wls⟩, _, rfl, a3, _, 3, _, rfl, rfl, SqT.of ha5, rfl, _, rfl, a3, _, 4, _, rfl, rfl, SqT.of ha5, rfl, (by show 3 ≤ sizeLine; decide), fun p22 hp22 => ?_⟩
                obtain ⟨wp22, lp22, S23x⟩ := S5.push_at hw hpw (by first | omega | (simp only [List.length_cons]; omega)) hp22
                have tkp22 : TK H5 _ := (TK.of (same_upd (Same.refl _) hp22)).trans (tk_lst (ys := us'.reverse ++ [V.ref p22]) wp22)
                have hap22 := tkp22 _ _ ha5
                have hyp22 := hy5.mono tkp22
                refine ⟨wl, _, _, rfl, rfl, wp22, lp22, ?_⟩
                refine ⟨_, rfl, _, rfl, _, rfl, a3, _, 0, _, rfl, rfl, SqT.of hap22, rfl, lo, hi, nd.k, rfl, _, rfl, ?_⟩
                refine eqB hI ⟨_, rfl, .inl ⟨rfl, _, SqL.of S23x.wls⟩, _, rfl, a3, _, 0, _, rfl, rfl, SqT.of hap22, rfl, _, rfl, a3, _, 1, _, rfl, rfl, SqT.of hap22, rfl, (by show 2 ≤ sizeLine; decide), fun r25 hr25 => ⟨(by show 3 ≤ sizeLine; decide), fun p24 hp24 => ?_⟩⟩
                obtain ⟨wp24, lp24, S26x⟩ := S23x.push_pr hw hpw (by first | omega | (simp only [List.length_cons]; omega)) hyp22 hr25 hp24
                have tkp24 : TK _ _ := ((TK.of (same_upd (Same.refl _) hr25)).trans (TK.of (same_upd (Same.refl _) hp24))).trans (tk_lst (ys := (V.ref p22 :: us').reverse ++ [V.ref p24]) wp24)
                have hap24 := tkp24 _ _ hap22
                have hyp24 := hyp22.mono tkp24
                refine ⟨wl, _, _, rfl, rfl, wp24, lp24, ?_⟩
                refine ⟨_, rfl, _, rfl, a3, _, 0, _, rfl, rfl, SqT.of hap24, rfl, lo, nd.k, rfl, _, rfl, ?_⟩
                refine eqB hL ⟨_, rfl, .inl ⟨rfl, _, SqL.of S26x.wls⟩, _, rfl, a3, _, 2, _, rfl, rfl, SqT.of hap24, rfl, _, rfl, a3, _, 4, _, rfl, rfl, SqT.of hap24, rfl, (by show 3 ≤ sizeLine; decide), fun p27 hp27 => ?_⟩
                obtain ⟨wp27, lp27, S28x⟩ := S26x.push_at hw hpw (by first | omega | (simp only [List.length_cons]; omega)) hp27
                have tkp27 : TK _ _ := (TK.of (same_upd (Same.refl _) hp27)).trans (tk_lst (ys := (V.ref p24 :: (V.ref p22 :: us')).reverse ++ [V.ref p27]) wp27)
                have hap27 := tkp27 _ _ hap24
                have hyp27 := hyp24.mono tkp27
                refine ⟨wl, _, _, rfl, rfl, wp27, lp27, ?_⟩
                exact ⟨_, _, acc, _, _, _, _, _, rfl, S28x, by omega, (by first | omega | (simp only [List.length_cons]; omega)), q5⟩
end
end PV
set_option Elab.async false
set_option linter.all false
set_option maxRecDepth 100000
set_option maxHeartbeats 4000000
/-! Trees: parted, rebuilt. -/
namespace PV
open PySem PySem.Spec PyProof.Rows L2
theorem paired_at {α β : Type} {R : α → β → Prop} : ∀ {xs : List α} {ys : List β} {i : Nat} {x : α}, Paired R xs ys → xs[i]? = some x → ∃ y, ys[i]? = some y ∧ R x y
  | _, _, i, x, .nil, h => by simp at h
  | _, _, 0, x, .cons h r, e => by
    simp at e
    subst e
    exact ⟨_, rfl, h⟩
  | _, _, i + 1, x, .cons h r, e => by
    simp at e
    obtain ⟨y, h1, h2⟩ := paired_at (i := i) r e
    exact ⟨y, by simpa using h1, h2⟩
theorem rev_at {us : List V} {i : Nat} {x : V} (hi : i < us.reverse.length) (h : us.reverse[us.reverse.length - 1 - i]? = some x) : us[i]? = some x := by
  rw [List.length_reverse] at hi h
  rw [List.getElem?_reverse (by omega)] at h
  rw [← h]
  congr 1
  omega
theorem drop_at {α : Type} {l : List α} {i : Nat} {x : α} (h : l[i]? = some x) : l.drop i = x :: l.drop (i + 1) := by
  obtain ⟨hi, e⟩ := List.getElem?_eq_some_iff.mp h
  rw [List.drop_eq_getElem_cons hi, e]
/-- a way of nodes, the latest first -/
structure WInv (K : Frag) (H : Hp) (v d e wl : Addr) (Hc : Hp) (st : VS) (us : List V) (way : List Nd) : Prop where
  vat : VAt K Hc v d e st
  fr : Fr d e H Hc
  wls : Hc wl = some (.lst us.reverse)
  nds : Paired (NdAt Hc) us way
section
variable {K : Frag} {H Hc H1 : Hp} {v d e wl : Addr} {st st1 : VS} {us : List V} {way : List Nd}
theorem WInv.same (S : WInv K H v d e wl Hc st us way) (s : Same Hc H1) : WInv K H v d e wl H1 st us way :=
  ⟨S.vat.same s, S.fr.trans (Fr.of s), s _ _ S.wls, paired_mono (fun _ _ z => z.mono (TK.of s)) S.nds⟩
theorem WInv.call (S : WInv K H v d e wl Hc st us way) (f : Fr d e Hc H1) (hV : VAt K H1 v d e st1) : WInv K H v d e wl H1 st1 us way :=
  ⟨hV, S.fr.trans f, S.vat.keep f S.wls (fun _ z => nomatch z), paired_mono (fun _ _ z => z.mono (S.vat.tk f)) S.nds⟩
theorem WInv.push (S : WInv K H v d e wl Hc st us way) (hw : H wl = none) {u : V} {nd : Nd} (h : NdAt Hc u nd) : WInv K H v d e wl (L2.upd Hc wl (.lst (us.reverse ++ [u]))) st (u :: us) (nd :: way) := by
  have tk : TK Hc (L2.upd Hc wl (.lst (us.reverse ++ [u]))) := tk_lst S.wls
  exact ⟨S.vat.lst S.wls, S.fr.new hw, by rw [upd_same, List.reverse_cons], .cons (h.mono tk) (paired_mono (fun _ _ z => z.mono tk) S.nds)⟩
end
theorem fit_key {nd : Nd} (h : nd.Ok) : nd.k.okK = true := by
  have q := (fit_iff.mp h.win).1
  unfold Nd.th at q
  rw [Th.within, Bool.and_eq_true] at q
  have z := withinL_mem q.2 nd.k.th List.mem_cons_self
  unfold Ky.okK
  cases e : nd.k with
  | int i => rw [e] at z; simpa [Ky.th, Th.within] using z
  | str s => rw [e] at z; simpa [Ky.th, Th.within] using z
theorem tup_nd {H : Hp} {k : Ky} {y : V} {t : Th} {l r c : Int} {p : Addr} (hy : ThA H y t) (hp : H p = none) : ThA (L2.upd H p (.tup [kyV k, y, .int l, .int r, .int c])) (.ref p) (Nd.th ⟨k, t, l, r, c⟩) :=
  .tup upd_same (.cons (ta_kyV k) (.cons (hy.mono (TK.of (same_upd (Same.refl _) hp))) (.cons (.int _) (.cons (.int _) (.cons (.int _) .nil)))))
def RPp (H : Hp) (u : V) (p : Int × Int) : Prop := ∃ a, u = .ref a ∧ H a = some (.tup [.int p.1, .int p.2])
def spPart (K : Frag) : Sp := fun vs H Q E => ∃ v d e st root key, vs = [.ref v, .int root, kyV key] ∧ VAt K H v d e st ∧ SpP K (partQ root key) RPp v d e st H Q E
def spRebuilt (K : Frag) : Sp := fun vs H Q E => ∃ v d e st us way wl key root more, vs = [.ref v, .ref wl, kyV key, .int root, .int more] ∧ VAt K H v d e st ∧ H wl = some (.lst us.reverse) ∧ Paired (NdAt H) us way ∧ SpP K (rebuiltP key more way root) RInt v d e st H Q E
section
variable {P : Program} {w : World} {K : Frag} {mg : Str → Option Value} {base : Heap}
/-- v.lay(a node) -/
theorem m_layN (T : Txt K mg) {H : Hp} {v d e : Addr} {st : VS} (hV : VAt K H v d e st) : ∃ C dx fs sp, H v = some (.ins C dx fs) ∧ fs.lookup ("lay" : Str) = none ∧ Cls K C ∧
    CalM P w K mg base (L2.CX P w) 10 C "lay" ["self", "new"] sp ∧ ∀ (k : Ky) (y : V) (t : Th) (l r c : Int) (p : Addr) (Q : VK) (E : XK), H p = none → ThA H y t →
      SpP K (.ly (Nd.th ⟨k, t, l, r, c⟩) .ret) RInt v d e st (L2.upd H p (.tup [kyV k, y, .int l, .int r, .int c])) Q E → sp [.ref v, .ref p] (L2.upd H p (.tup [kyV k, y, .int l, .int r, .int c])) Q E := by
  obtain ⟨C, dx, fs, sp, h1, h2, h3, h4, h5⟩ := m_lay (P := P) (w := w) (base := base) T hV
  exact ⟨C, dx, fs, sp, h1, h2, h3, h4, fun k y t l r c p Q E hp hy q => h5 _ _ _ Q E (same_upd (Same.refl _) hp) (tup_nd hy hp) q⟩
theorem sc_pa : FnScope ["vault", "root", "key", "way", "count", "node", "left", "right", "lesser", "greater", "beneath", "rest"] ["vault", "root", "key"] (defScope s_part) := ⟨rfl, rfl, rfl, by decide +kernel, rfl, by decide +kernel, by decide +kernel⟩
theorem sc_rb : FnScope ["vault", "way", "key", "root", "more", "node"] ["vault", "way", "key", "root", "more"] (defScope s_rebuilt) := ⟨rfl, rfl, rfl, by decide +kernel, rfl, by decide +kernel, by decide +kernel⟩
theorem c_rebuilt (T : Txt K mg) : Cal P w K mg base (L2.CX P w) 11 "rebuilt" ["vault", "way", "key", "root", "more"] (spRebuilt K) := by
  have GA := c_ahead (P := P) (w := w) (base := base) T
  refine T.d_rebuilt.cal (fun f fd F => F.okX sc_rb (fun vs H Q E h => ?_) (fun cdv A outer s H vs Q E hr h => ?_)) (fun _ _ _ _ _ _ us hl => match us, hl with | [_, _, _, _, _], _ => rfl)
  · obtain ⟨_, _, _, _, _, _, _, _, _, _, rfl, _⟩ := h
    rfl
  · obtain ⟨v, d, e, st, us, way, wl, key, root, more, rfl, hV, hwl, hns, h⟩ := h
    have hr3 : Room 3 (A.deeper (envOfC "rebuilt" (defScope s_rebuilt) s.heap.objs.size f cdv)) := hr.mono (by decide)
    refine ⟨_, pss_cons (ps_for (passes_of rfl) rfl (pi_reversed rfl T.b_reversed (pa_cons (pv 1) pa_nil)) (pg_name (i := 5) sc_rb.nd rfl (.inl rfl))
        (pss_one (ps_if (pt_val (pe_cal GA hr3 pass0 (pa_cons (pv 2) (pa_cons (pe_ix ix_tup (pv 5) pe_int (fun _ _ => rfl)) pa_nil))))
          (pss_one (ps_set (i := 3) sc_rb.nd rfl (.inl rfl) (pe_methP (pv 0) hr (passes_call (takes_of rfl rfl rfl rfl) (fun _ _ _ _ h => h)) (pa_cons (pe_tup (pa_cons (pe_ix ix_tup (pv 5) pe_int (fun _ _ => rfl)) (pa_cons (pe_ix ix_tup (pv 5) pe_int (fun _ _ => rfl)) (pa_cons (pv 3) (pa_cons (pe_ix ix_tup (pv 5) pe_int (fun _ _ => rfl)) (pa_cons (pe_op op_add (pe_ix ix_tup (pv 5) pe_int (fun _ _ => rfl)) (pv 4)) pa_nil)))))) pa_nil))))
          (pss_one (ps_set (i := 3) sc_rb.nd rfl (.inl rfl) (pe_methP (pv 0) hr (passes_call (takes_of rfl rfl rfl rfl) (fun _ _ _ _ h => h)) (pa_cons (pe_tup (pa_cons (pe_ix ix_tup (pv 5) pe_int (fun _ _ => rfl)) (pa_cons (pe_ix ix_tup (pv 5) pe_int (fun _ _ => rfl)) (pa_cons (pe_ix ix_tup (pv 5) pe_int (fun _ _ => rfl)) (pa_cons (pv 3) (pa_cons (pe_op op_add (pe_ix ix_tup (pv 5) pe_int (fun _ _ => rfl)) (pv 4)) pa_nil)))))) pa_nil)))))))
      (pss_one (ps_ret (pv 3))), ?_⟩
    refine ⟨_, rfl, wl, us.reverse, rfl, SqL.of hwl, ?_⟩
    refine for_it (walk_rev (xs := us.reverse)) (fun i σ Hc => ∃ st root b, σ = [some (.ref v), some (.ref wl), some (kyV key), some (.int root), some (.int more), b] ∧ WInv K H v d e wl Hc st us way ∧ SpP K (rebuiltP key more (way.drop i) root) RInt v d e st H Q E)
      ⟨st, root, none, rfl, ⟨hV, Fr.refl _ _ _, hwl, hns⟩, h⟩ (fun i σ Hc _ ⟨_, _, _, _, S, _⟩ => SqL.of S.wls) ?_ ?_
    · rintro i x σ H1 H2 hi ⟨st, root, b, rfl, S, h⟩ ⟨rfl, hx⟩
      obtain ⟨nd, hnd, hn⟩ := paired_at S.nds (rev_at hi hx)
      rw [drop_at hnd] at h
      unfold rebuiltP at h
      obtain ⟨a, y, rfl, ha, hy, ok⟩ := id hn
      obtain ⟨C, dx, fs, sp, hv, hl, cC, cm, hsp⟩ := m_layN (P := P) (w := w) (base := base) T S.vat
      refine ⟨_, rfl, _, rfl, a, _, 0, _, rfl, rfl, SqT.of ha, rfl, key, nd.k, rfl, _, rfl, ?_⟩
      by_cases hb : ahead key nd.k = true
      · rw [if_pos hb] at h
        refine eqB hb ⟨_, rfl, v, C, dx, fs, _, sp, rfl, hv, hl, cC, cm, _, rfl, a, _, 0, _, rfl, rfl, SqT.of ha, rfl, _, rfl, a, _, 1, _, rfl, rfl, SqT.of ha, rfl, _, rfl, _, rfl, a, _, 3, _, rfl, rfl, SqT.of ha, rfl, _, rfl, a, _, 4, _, rfl, rfl, SqT.of ha, rfl, _, rfl, _, _, rfl, rfl, (by show 5 ≤ sizeLine; decide), fun p hp => ?_⟩
        refine hsp nd.k y nd.w root nd.r (nd.c + more) p _ _ hp hy ?_
        have sm := same_upd (o := .tup [kyV nd.k, y, .int root, .int nd.r, .int (nd.c + more)]) (Same.refl H2) hp
        refine SpP.next (p := .ly (Nd.th ⟨nd.k, nd.w, root, nd.r, nd.c + more⟩) .ret) (g := fun n => rebuiltP key more (way.drop (i + 1)) n) h (S.fr.trans (Fr.of sm)) fun n st1 u H3 fr1 V1 r1 q1 => ?_
        cases r1
        exact ⟨st1, n, _, rfl, (S.same sm).call fr1 V1, q1⟩
      · rw [if_neg hb] at h
        refine neB (by simpa using hb) ⟨_, rfl, v, C, dx, fs, _, sp, rfl, hv, hl, cC, cm, _, rfl, a, _, 0, _, rfl, rfl, SqT.of ha, rfl, _, rfl, a, _, 1, _, rfl, rfl, SqT.of ha, rfl, _, rfl, a, _, 2, _, rfl, rfl, SqT.of ha, rfl, _, rfl, _, rfl, a, _, 4, _, rfl, rfl, SqT.of ha, rfl, _, rfl, _, _, rfl, rfl, (by show 5 ≤ sizeLine; decide), fun p hp => ?_⟩
        refine hsp nd.k y nd.w nd.l root (nd.c + more) p _ _ hp hy ?_
        have sm := same_upd (o := .tup [kyV nd.k, y, .int nd.l, .int root, .int (nd.c + more)]) (Same.refl H2) hp
        refine SpP.next (p := .ly (Nd.th ⟨nd.k, nd.w, nd.l, root, nd.c + more⟩) .ret) (g := fun n => rebuiltP key more (way.drop (i + 1)) n) h (S.fr.trans (Fr.of sm)) fun n st1 u H3 fr1 V1 r1 q1 => ?_
        cases r1
        exact ⟨st1, n, _, rfl, (S.same sm).call fr1 V1, q1⟩
    · rintro σ Hc ⟨st, root, b, rfl, S, h⟩
      have e0 : way.drop us.reverse.length = [] := by
        rw [List.length_reverse, Paired.length S.nds]
        exact List.drop_length
      rw [e0] at h
      exact ⟨_, rfl, h.done S.fr S.vat rfl⟩
theorem c_part (T : Txt K mg) : Cal P w K mg base (L2.CX P w) 11 "part" ["vault", "root", "key"] (spPart K) := by
  have G := c_node_beneath (P := P) (w := w) (base := base) T
  have GA := c_ahead (P := P) (w := w) (base := base) T
  refine T.d_part.cal (fun f fd F => F.okX sc_pa (fun vs H Q E h => ?_) (fun cdv A outer s H vs Q E hr h => ?_)) (fun _ _ _ _ _ _ us hl => match us, hl with | [_, _, _], _ => rfl)
  · obtain ⟨_, _, _, _, _, _, rfl, _⟩ := h
    rfl
  · obtain ⟨v, d, e, st, root, key, rfl, hV, h⟩ := h
    have hr3 : Room 3 (A.deeper (envOfC "part" (defScope s_part) s.heap.objs.size f cdv)) := hr.mono (by decide)
    have hr4 : Room 4 (A.deeper (envOfC "part" (defScope s_part) s.heap.objs.size f cdv)) := hr.mono (by decide)
    refine ⟨_, (pss_cons (ps_set (i := 3) sc_pa.nd rfl (.inl rfl) (pe_lst pa_nil)) <| pss_cons (ps_set (i := 4) sc_pa.nd rfl (.inl rfl) (pe_gint T.i_UNBOUND)) <| pss_cons (ps_while (passes_of rfl) (pt_cmpR op_ne (pv 1) pe_int (nomark _)) (pss_cons (ps_set (i := 5) sc_pa.nd rfl (.inl rfl) (pe_cal G hr4 (passes_call (takes_of rfl rfl rfl rfl) (fun _ _ _ _ h => h)) (pa_cons (pv 0) (pa_cons (pv 1) (pa_cons (pv 4) pa_nil))))) <| pss_cons (ps_expr (pe_bm PySem.F.plainAttrs_list PySem.F.slot_list_append PySem.F.type_list_append mt_append (pv 3) (pa_cons (pv 5) pa_nil))) <| pss_cons (ps_set (i := 4) sc_pa.nd rfl (.inl rfl) (pe_ix ix_tup (pv 5) pe_int (fun _ _ => rfl))) <| pss_cons (ps_set (i := 1) sc_pa.nd rfl (.inl rfl) (pe_ix ix_tup (pv 5) pe_int (fun _ _ => rfl))) <| pss_one (ps_if (pt_val (pe_cal GA hr3 pass0 (pa_cons (pe_ix ix_tup (pv 5) pe_int (fun _ _ => rfl)) (pa_cons (pv 2) pa_nil)))) (pss_one (ps_set (i := 1) sc_pa.nd rfl (.inl rfl) (pe_ix ix_tup (pv 5) pe_int (fun _ _ => rfl)))) pss_nil))) <| pss_cons (ps_set (i := 6) sc_pa.nd rfl (.inl rfl) pe_int) <| pss_cons (ps_set (i := 7) sc_pa.nd rfl (.inl rfl) pe_int) <| pss_cons (ps_set (i := 8) sc_pa.nd rfl (.inl rfl) pe_int) <| pss_cons (ps_set (i := 9) sc_pa.nd rfl (.inl rfl) pe_int) <| pss_cons (ps_set (i := 10) sc_pa.nd rfl (.inl rfl) pe_int) <| pss_cons (ps_for (passes_of rfl) rfl (pi_reversed rfl T.b_reversed (pa_cons (pv 3) pa_nil)) (pg_name (i := 5) sc_pa.nd rfl (.inl rfl)) (pss_cons (ps_set (i := 11) sc_pa.nd rfl (.inl rfl) (pe_op op_sub (pe_ix ix_tup (pv 5) pe_int (fun _ _ => rfl)) (pv 10))) <| pss_cons (ps_set (i := 10) sc_pa.nd rfl (.inl rfl) (pe_ix ix_tup (pv 5) pe_int (fun _ _ => rfl))) <| pss_one (ps_if (pt_val (pe_cal GA hr3 pass0 (pa_cons (pe_ix ix_tup (pv 5) pe_int (fun _ _ => rfl)) (pa_cons (pv 2) pa_nil)))) (pss_cons (ps_aug (i := 8) sc_pa.nd rfl (.inl rfl) (pv 11) ip_add) <| pss_one (ps_set (i := 6) sc_pa.nd rfl (.inl rfl) (pe_methP (pv 0) hr (passes_call (takes_of rfl rfl rfl rfl) (fun _ _ _ _ h => h)) (pa_cons (pe_tup (pa_cons (pe_ix ix_tup (pv 5) pe_int (fun _ _ => rfl)) (pa_cons (pe_ix ix_tup (pv 5) pe_int (fun _ _ => rfl)) (pa_cons (pe_ix ix_tup (pv 5) pe_int (fun _ _ => rfl)) (pa_cons (pv 6) (pa_cons (pv 8) pa_nil)))))) pa_nil)))) (pss_cons (ps_aug (i := 9) sc_pa.nd rfl (.inl rfl) (pv 11) ip_add) <| pss_one (ps_set (i := 7) sc_pa.nd rfl (.inl rfl) (pe_methP (pv 0) hr (passes_call (takes_of rfl rfl rfl rfl) (fun _ _ _ _ h => h)) (pa_cons (pe_tup (pa_cons (pe_ix ix_tup (pv 5) pe_int (fun _ _ => rfl)) (pa_cons (pe_ix ix_tup (pv 5) pe_int (fun _ _ => rfl)) (pa_cons (pv 7) (pa_cons (pe_ix ix_tup (pv 5) pe_int (fun _ _ => rfl)) (pa_cons (pv 9) pa_nil)))))) pa_nil))))))) <| pss_one (ps_ret (pe_tup (pa_cons (pv 6) (pa_cons (pv 7) pa_nil))))), ?_⟩
    unfold partQ at h
    refine ⟨Nat.zero_le _, fun wl hwl => ?_⟩
    have sm0 : Same H (L2.upd H wl (.lst [])) := same_upd (Same.refl _) hwl
    refine ⟨fun m σ Hc => ∃ st root c way us b5 b6 b7 b8 b9 b10 b11, σ = [some (.ref v), some (.int root), some (kyV key), some (.ref wl), some (.int c), b5, b6, b7, b8, b9, b10, b11] ∧ WInv K H v d e wl Hc st us way ∧ us.length + m ≤ 40 ∧
        SpP K ((partDown m root key c way).bind fun way => partBack key way ⟨0, 0, 0, 0, 0⟩) RPp v d e st H Q E,
      ⟨fuelP, st, root, 301, [], [], none, none, none, none, none, none, none, rfl, ⟨hV.same sm0, Fr.of sm0, upd_same, .nil⟩, (by decide), h⟩, ?_⟩
    rintro m σ Hc ⟨st, root, c, way, us, b5, b6, b7, b8, b9, b10, b11, rfl, S, hm, h⟩
    cases m with
    | zero => exact h.bad.elim
    | succ m =>
      unfold partDown at h
      refine ⟨_, rfl, rfl, _, rfl, ?_⟩
      rw [dec_int]
      by_cases h0 : root = 0
      · rw [if_pos h0] at h
        replace h : SpP K (partBack key way ⟨0, 0, 0, 0, 0⟩) RPp v d e st H Q E := h
        refine neB (by simp [h0]) ⟨_, rfl, wl, us.reverse, rfl, SqL.of S.wls, ?_⟩
        refine for_it (walk_rev (xs := us.reverse)) (fun i σ Hc => ∃ st ps b1 b5 b11, σ = [some (.ref v), some (.int root), some (kyV key), some (.ref wl), some (.int c), b5, some (.int ps.left), some (.int ps.right), some (.int ps.lesser), some (.int ps.greater), some (.int ps.beneath), b11] ∧ b1 = () ∧
            WInv K H v d e wl Hc st us way ∧ SpP K (partBack key (way.drop i) ps) RPp v d e st H Q E)
          ⟨st, ⟨0, 0, 0, 0, 0⟩, (), _, _, rfl, rfl, S, h⟩ (fun i σ Hc _ ⟨_, _, _, _, _, _, _, S, _⟩ => SqL.of S.wls) ?_ ?_
        · rintro i x σ H1 H2 hi ⟨st, ps, b1, b5, b11, rfl, _, S, h⟩ ⟨rfl, hx⟩
          obtain ⟨nd, hnd, hn⟩ := paired_at S.nds (rev_at hi hx)
          rw [drop_at hnd] at h
          unfold partBack at h
          obtain ⟨a, y, rfl, ha, hy, ok⟩ := id hn
          obtain ⟨C, dx, fs, sp, hv, hl, cC, cm, hsp⟩ := m_layN (P := P) (w := w) (base := base) T S.vat
          refine ⟨_, rfl, a, _, 4, _, rfl, rfl, SqT.of ha, rfl, _, rfl, _, _, rfl, rfl, ?_⟩
          refine ⟨_, rfl, a, _, 4, _, rfl, rfl, SqT.of ha, rfl, ?_⟩
          refine ⟨_, rfl, a, _, 0, _, rfl, rfl, SqT.of ha, rfl, _, rfl, nd.k, key, rfl, _, rfl, ?_⟩
          by_cases hb : ahead nd.k key = true
          · rw [if_pos hb] at h
            refine eqB hb ⟨_, rfl, _, rfl, _, _, rfl, rfl, _, rfl, v, C, dx, fs, _, sp, rfl, hv, hl, cC, cm, _, rfl, a, _, 0, _, rfl, rfl, SqT.of ha, rfl, _, rfl, a, _, 1, _, rfl, rfl, SqT.of ha, rfl, _, rfl, a, _, 2, _, rfl, rfl, SqT.of ha, rfl, _, rfl, _, rfl, (by show 5 ≤ sizeLine; decide), fun p hp => ?_⟩
            refine hsp nd.k y nd.w nd.l ps.left (ps.lesser + (nd.c - ps.beneath)) p _ _ hp hy ?_
            have sm := same_upd (o := .tup [kyV nd.k, y, .int nd.l, .int ps.left, .int (ps.lesser + (nd.c - ps.beneath))]) (Same.refl H2) hp
            refine SpP.next (p := .ly (Nd.th ⟨nd.k, nd.w, nd.l, ps.left, ps.lesser + (nd.c - ps.beneath)⟩) .ret) (g := fun n => partBack key (way.drop (i + 1)) ⟨n, ps.right, ps.lesser + (nd.c - ps.beneath), ps.greater, nd.c⟩) h (S.fr.trans (Fr.of sm)) fun n st1 u H3 fr1 V1 r1 q1 => ?_
            cases r1
            exact ⟨st1, ⟨n, ps.right, ps.lesser + (nd.c - ps.beneath), ps.greater, nd.c⟩, (), _, _, rfl, rfl, (S.same sm).call fr1 V1, q1⟩
          · rw [if_neg hb] at h
            refine neB (by simpa using hb) ⟨_, rfl, _, rfl, _, _, rfl, rfl, _, rfl, v, C, dx, fs, _, sp, rfl, hv, hl, cC, cm, _, rfl, a, _, 0, _, rfl, rfl, SqT.of ha, rfl, _, rfl, a, _, 1, _, rfl, rfl, SqT.of ha, rfl, _, rfl, _, rfl, a, _, 3, _, rfl, rfl, SqT.of ha, rfl, _, rfl, (by show 5 ≤ sizeLine; decide), fun p hp => ?_⟩
            refine hsp nd.k y nd.w ps.right nd.r (ps.greater + (nd.c - ps.beneath)) p _ _ hp hy ?_
            have sm := same_upd (o := .tup [kyV nd.k, y, .int ps.right, .int nd.r, .int (ps.greater + (nd.c - ps.beneath))]) (Same.refl H2) hp
            refine SpP.next (p := .ly (Nd.th ⟨nd.k, nd.w, ps.right, nd.r, ps.greater + (nd.c - ps.beneath)⟩) .ret) (g := fun n => partBack key (way.drop (i + 1)) ⟨ps.left, n, ps.lesser, ps.greater + (nd.c - ps.beneath), nd.c⟩) h (S.fr.trans (Fr.of sm)) fun n st1 u H3 fr1 V1 r1 q1 => ?_
            cases r1
            exact ⟨st1, ⟨ps.left, n, ps.lesser, ps.greater + (nd.c - ps.beneath), nd.c⟩, (), _, _, rfl, rfl, (S.same sm).call fr1 V1, q1⟩
        · rintro σ Hc ⟨st, ps, b1, b5, b11, rfl, _, S, h⟩
          have e0 : way.drop us.reverse.length = [] := by
            rw [List.length_reverse, Paired.length S.nds]
            exact List.drop_length
          rw [e0] at h
          refine ⟨_, rfl, _, rfl, (by show 2 ≤ sizeLine; decide), fun p hp => ?_⟩
          have sm := same_upd (o := .tup [.int ps.left, .int ps.right]) (Same.refl Hc) hp
          exact h.done (S.fr.trans (Fr.of sm)) (S.vat.same sm) ⟨p, rfl, upd_same⟩
      · rw [if_neg h0] at h
        rw [bind_assoc] at h
        refine eqB (by simp [h0]) ⟨fun σ' H' => ∃ st root c way us b5 b6 b7 b8 b9 b10 b11, σ' = [some (.ref v), some (.int root), some (kyV key), some (.ref wl), some (.int c), b5, b6, b7, b8, b9, b10, b11] ∧ WInv K H v d e wl H' st us way ∧ us.length + m ≤ 40 ∧
          SpP K ((partDown m root key c way).bind fun way => partBack key way ⟨0, 0, 0, 0, 0⟩) RPp v d e st H Q E, fun σ' H' z => ⟨m, Nat.lt_succ_self _, z⟩, ?_⟩
        refine ⟨_, rfl, _, rfl, _, rfl, v, d, e, st, root, c, rfl, S.vat, h.next S.fr fun nd st1 u H1 fr1 V1 hn q => ?_⟩
        have S1 := S.call fr1 V1
        have S2 := S1.push hwl hn
        refine ⟨_, rfl, .inl ⟨rfl, _, SqL.of S1.wls⟩, _, rfl, wl, _, _, rfl, rfl, S1.wls, ?_, ?_⟩
        · rw [List.length_reverse]
          exact Nat.lt_of_le_of_lt (show us.length ≤ 40 by omega) (by decide)
        obtain ⟨a, y, rfl, ha, hy, ok⟩ := hn.mono (tk_lst (ys := us.reverse ++ [u]) S1.wls)
        refine ⟨_, rfl, a, _, 4, _, rfl, rfl, SqT.of ha, rfl, ?_⟩
        refine ⟨_, rfl, a, _, 2, _, rfl, rfl, SqT.of ha, rfl, ?_⟩
        refine ⟨_, rfl, a, _, 0, _, rfl, rfl, SqT.of ha, rfl, _, rfl, nd.k, key, rfl, _, rfl, ?_⟩
        by_cases hb : ahead nd.k key = true
        · rw [if_pos hb] at q
          exact eqB hb ⟨_, rfl, a, _, 3, _, rfl, rfl, SqT.of ha, rfl, st1, nd.r, nd.c, nd :: way, _ :: us, _, _, _, _, _, _, _, rfl, S2, by rw [List.length_cons]; omega, q⟩
        · rw [if_neg hb] at q
          exact neB (by simpa using hb) ⟨st1, nd.l, nd.c, nd :: way, _ :: us, _, _, _, _, _, _, _, rfl, S2, by rw [List.length_cons]; omega, q⟩
end
end PV
set_option Elab.async false
set_option linter.all false
set_option maxRecDepth 100000
set_option maxHeartbeats 4000000
/-! Trees: joined, put, cut. -/
namespace PV
open PySem PySem.Spec PyProof.Rows L2
def JItem (H : Hp) (u : V) (p : Nd × Bool × Int) : Prop := ∃ a n, u = .ref a ∧ H a = some (.tup [n, .bl p.2.1, .int p.2.2]) ∧ NdAt H n p.1
theorem JItem.mono {H H' : Hp} (k : TK H H') {u : V} {p : Nd × Bool × Int} (h : JItem H u p) : JItem H' u p := by
  obtain ⟨a, n, e, h1, h2⟩ := h
  exact ⟨a, n, e, k _ _ h1, h2.mono k⟩
structure JInv (K : Frag) (H : Hp) (v d e wl : Addr) (Hc : Hp) (st : VS) (us : List V) (way : List (Nd × Bool × Int)) : Prop where
  vat : VAt K Hc v d e st
  fr : Fr d e H Hc
  wls : Hc wl = some (.lst us.reverse)
  nds : Paired (JItem Hc) us way
section
variable {K : Frag} {H Hc H1 : Hp} {v d e wl : Addr} {st st1 : VS} {us : List V} {way : List (Nd × Bool × Int)}
theorem JInv.same (S : JInv K H v d e wl Hc st us way) (s : Same Hc H1) : JInv K H v d e wl H1 st us way :=
  ⟨S.vat.same s, S.fr.trans (Fr.of s), s _ _ S.wls, paired_mono (fun _ _ z => z.mono (TK.of s)) S.nds⟩
theorem JInv.call (S : JInv K H v d e wl Hc st us way) (f : Fr d e Hc H1) (hV : VAt K H1 v d e st1) : JInv K H v d e wl H1 st1 us way :=
  ⟨hV, S.fr.trans f, S.vat.keep f S.wls (fun _ z => nomatch z), paired_mono (fun _ _ z => z.mono (S.vat.tk f)) S.nds⟩
theorem JInv.push (S : JInv K H v d e wl Hc st us way) (hw : H wl = none) {u : V} {p : Nd × Bool × Int} (h : JItem Hc u p) : JInv K H v d e wl (L2.upd Hc wl (.lst (us.reverse ++ [u]))) st (u :: us) (p :: way) := by
  have tk : TK Hc (L2.upd Hc wl (.lst (us.reverse ++ [u]))) := tk_lst S.wls
  exact ⟨S.vat.lst S.wls, S.fr.new hw, by rw [upd_same, List.reverse_cons], .cons (h.mono tk) (paired_mono (fun _ _ z => z.mono tk) S.nds)⟩
end
def spJoined (K : Frag) : Sp := fun vs H Q E => ∃ v d e st left right most, vs = [.ref v, .int left, .int right, .int most] ∧ VAt K H v d e st ∧ SpP K (joinedQ left right most) RInt v d e st H Q E
def spPut (K : Frag) : Sp := fun vs H Q E => ∃ v d e st root key y worth, vs = [.ref v, .int root, kyV key, y] ∧ VAt K H v d e st ∧ key.okK = true ∧ ThA H y worth ∧ SpP K (putQ root key worth) RInt v d e st H Q E
def spCut (K : Frag) : Sp := fun vs H Q E => ∃ v d e st root key, vs = [.ref v, .int root, kyV key] ∧ VAt K H v d e st ∧ SpP K (cutQ root key) RInt v d e st H Q E
section
variable {P : Program} {w : World} {K : Frag} {mg : Str → Option Value} {base : Heap}
theorem sc_jo : FnScope ["vault", "left", "right", "most", "way", "one", "other", "first", "second", "both", "root", "node", "is_first"] ["vault", "left", "right", "most"] (defScope s_joined) := ⟨rfl, rfl, rfl, by decide +kernel, rfl, by decide +kernel, by decide +kernel⟩
theorem sc_pu : FnScope ["vault", "root", "key", "worth", "way", "count", "node", "left", "right"] ["vault", "root", "key", "worth"] (defScope s_put) := ⟨rfl, rfl, rfl, by decide +kernel, rfl, by decide +kernel, by decide +kernel⟩
theorem sc_cu : FnScope ["vault", "root", "key", "whole", "way", "count", "node"] ["vault", "root", "key"] (defScope s_cut) := ⟨rfl, rfl, rfl, by decide +kernel, rfl, by decide +kernel, by decide +kernel⟩
theorem c_joined (T : Txt K mg) : Cal P w K mg base (L2.CX P w) 11 "joined" ["vault", "left", "right", "most"] (spJoined K) := by
  have G := c_node_beneath (P := P) (w := w) (base := base) T
  have GA := c_above (P := P) (w := w) (base := base) T
  refine T.d_joined.cal (fun f fd F => F.okX sc_jo (fun vs H Q E h => ?_) (fun cdv A outer s H vs Q E hr h => ?_)) (fun _ _ _ _ _ _ us hl => match us, hl with | [_, _, _, _], _ => rfl)
  · obtain ⟨_, _, _, _, _, _, _, rfl, _⟩ := h
    rfl
  · obtain ⟨v, d, e, st, left, right, most, rfl, hV, h⟩ := h
    have hr4 : Room 4 (A.deeper (envOfC "joined" (defScope s_joined) s.heap.objs.size f cdv)) := hr.mono (by decide)
    refine ⟨_, (pss_cons (ps_set (i := 4) sc_jo.nd rfl (.inl rfl) (pe_lst pa_nil)) <| pss_cons (ps_set (i := 5) sc_jo.nd rfl (.inl rfl) (pv 3)) <| pss_cons (ps_set (i := 6) sc_jo.nd rfl (.inl rfl) (pv 3)) <| pss_cons (ps_while (passes_of rfl) (PW.pt (pw_and (pt_cmpR op_ne (pv 1) pe_int (nomark _)) (pw_and1 (pt_cmpR op_ne (pv 2) pe_int (nomark _))))) (pss_cons (ps_set (i := 7) sc_jo.nd rfl (.inl rfl) (pe_cal G hr4 (passes_call (takes_of rfl rfl rfl rfl) (fun _ _ _ _ h => h)) (pa_cons (pv 0) (pa_cons (pv 1) (pa_cons (pv 5) pa_nil))))) <| pss_cons (ps_set (i := 8) sc_jo.nd rfl (.inl rfl) (pe_cal G hr4 (passes_call (takes_of rfl rfl rfl rfl) (fun _ _ _ _ h => h)) (pa_cons (pv 0) (pa_cons (pv 2) (pa_cons (pv 6) pa_nil))))) <| pss_cons (ps_set (i := 9) sc_jo.nd rfl (.inl rfl) (pe_op op_add (pe_ix ix_tup (pv 7) pe_int (fun _ _ => rfl)) (pe_ix ix_tup (pv 8) pe_int (fun _ _ => rfl)))) <| pss_one (ps_if (pt_val (pe_cal GA hr pass0 (pa_cons (pe_ix ix_tup (pv 7) pe_int (fun _ _ => rfl)) (pa_cons (pe_ix ix_tup (pv 8) pe_int (fun _ _ => rfl)) pa_nil)))) (pss_cons (ps_expr (pe_bm PySem.F.plainAttrs_list PySem.F.slot_list_append PySem.F.type_list_append mt_append (pv 4) (pa_cons (pe_tup (pa_cons (pv 7) (pa_cons pe_bl (pa_cons (pv 9) pa_nil)))) pa_nil))) <| pss_cons (ps_set (i := 5) sc_jo.nd rfl (.inl rfl) (pe_ix ix_tup (pv 7) pe_int (fun _ _ => rfl))) <| pss_one (ps_set (i := 1) sc_jo.nd rfl (.inl rfl) (pe_ix ix_tup (pv 7) pe_int (fun _ _ => rfl)))) (pss_cons (ps_expr (pe_bm PySem.F.plainAttrs_list PySem.F.slot_list_append PySem.F.type_list_append mt_append (pv 4) (pa_cons (pe_tup (pa_cons (pv 8) (pa_cons pe_bl (pa_cons (pv 9) pa_nil)))) pa_nil))) <| pss_cons (ps_set (i := 6) sc_jo.nd rfl (.inl rfl) (pe_ix ix_tup (pv 8) pe_int (fun _ _ => rfl))) <| pss_one (ps_set (i := 2) sc_jo.nd rfl (.inl rfl) (pe_ix ix_tup (pv 8) pe_int (fun _ _ => rfl))))))) <| pss_cons (ps_set (i := 10) sc_jo.nd rfl (.inl rfl) (pv 1)) <| pss_cons (ps_if (pt_cmpR op_eq (pv 1) pe_int (nomark _)) (pss_one (ps_set (i := 10) sc_jo.nd rfl (.inl rfl) (pv 2))) pss_nil) <| pss_cons (ps_for (passes_of rfl) rfl (pi_reversed rfl T.b_reversed (pa_cons (pv 4) pa_nil)) (pg_tup rfl (pgs_cons (pg_name (i := 11) sc_jo.nd rfl (.inl rfl)) (pgs_cons (pg_name (i := 12) sc_jo.nd rfl (.inl rfl)) (pgs_cons (pg_name (i := 9) sc_jo.nd rfl (.inl rfl)) pgs_nil)))) (pss_one (ps_if (pt_val (pv 12)) (pss_one (ps_set (i := 10) sc_jo.nd rfl (.inl rfl) (pe_methP (pv 0) hr (passes_call (takes_of rfl rfl rfl rfl) (fun _ _ _ _ h => h)) (pa_cons (pe_tup (pa_cons (pe_ix ix_tup (pv 11) pe_int (fun _ _ => rfl)) (pa_cons (pe_ix ix_tup (pv 11) pe_int (fun _ _ => rfl)) (pa_cons (pe_ix ix_tup (pv 11) pe_int (fun _ _ => rfl)) (pa_cons (pv 10) (pa_cons (pv 9) pa_nil)))))) pa_nil)))) (pss_one (ps_set (i := 10) sc_jo.nd rfl (.inl rfl) (pe_methP (pv 0) hr (passes_call (takes_of rfl rfl rfl rfl) (fun _ _ _ _ h => h)) (pa_cons (pe_tup (pa_cons (pe_ix ix_tup (pv 11) pe_int (fun _ _ => rfl)) (pa_cons (pe_ix ix_tup (pv 11) pe_int (fun _ _ => rfl)) (pa_cons (pv 10) (pa_cons (pe_ix ix_tup (pv 11) pe_int (fun _ _ => rfl)) (pa_cons (pv 9) pa_nil)))))) pa_nil))))))) <| pss_one (ps_ret (pv 10))), ?_⟩
    unfold joinedQ at h
    refine ⟨Nat.zero_le _, fun wl hwl => ?_⟩
    have sm0 : Same H (L2.upd H wl (.lst [])) := same_upd (Same.refl _) hwl
    refine ⟨_, rfl, _, rfl, ?_⟩
    refine ⟨fun m σ Hc => ∃ st left right one other way us b7 b8 b9 b10 b11 b12, σ = [some (.ref v), some (.int left), some (.int right), some (.int most), some (.ref wl), some (.int one), some (.int other), b7, b8, b9, b10, b11, b12] ∧ JInv K H v d e wl Hc st us way ∧ us.length + m ≤ 40 ∧ SpP K ((joinDown m left right one other way).bind fun p => joinBack p.2 p.1) RInt v d e st H Q E,
      ⟨fuelP, st, left, right, most, most, [], [], none, none, none, none, none, none, rfl, ⟨hV.same sm0, Fr.of sm0, upd_same, .nil⟩, (by decide), h⟩, ?_⟩
    rintro m σ Hc ⟨st, left, right, one, other, way, us, b7, b8, b9, b10, b11, b12, rfl, S, hm, h⟩
    cases m with
    | zero => exact h.bad.elim
    | succ m =>
      unfold joinDown at h
      by_cases hlr : left = 0 ∨ right = 0
      · rw [if_pos hlr] at h
        replace h : SpP K (joinBack way (if left = 0 then right else left)) RInt v d e st H Q E := h
        have step : ∀ (i : Nat) (x : V) (H2 : Hp) (st : VS) (root : Int), i < us.reverse.length → JInv K H v d e wl H2 st us way → SpP K (joinBack (way.drop i) root) RInt v d e st H Q E → us.reverse[us.reverse.length - 1 - i]? = some x →
            ∃ a nd b both a2 y, x = .ref a ∧ H2 a = some (.tup [.ref a2, .bl b, .int both]) ∧ H2 a2 = some (.tup [kyV nd.k, y, .int nd.l, .int nd.r, .int nd.c]) ∧ ThA H2 y nd.w ∧ SpP K (joinBack ((nd, b, both) :: way.drop (i + 1)) root) RInt v d e st H Q E := by
          intro i x H2 st root hi S h hx
          obtain ⟨⟨nd, b, both⟩, hnd, a, n, rfl, ha, hn⟩ := paired_at S.nds (rev_at hi hx)
          rw [drop_at hnd] at h
          obtain ⟨a2, y, rfl, ha2, hy, ok⟩ := id hn
          exact ⟨a, nd, b, both, a2, y, rfl, ha, ha2, hy, h⟩
        refine ⟨_, rfl, rfl, _, rfl, ?_⟩
        rw [dec_int]
        by_cases hl0 : left = 0
        · rw [if_pos hl0] at h
          refine neB (by simp [hl0]) (iteF ?_)
          refine ⟨_, rfl, _, rfl, rfl, _, rfl, ?_⟩
          rw [dec_int]
          refine eqB (by simp [hl0]) ⟨_, rfl, ?_⟩
          refine ⟨_, rfl, wl, us.reverse, rfl, SqL.of S.wls, ?_⟩
          refine for_it (walk_rev (xs := us.reverse)) (fun i σ Hc => ∃ st root b9 b11 b12, σ = [some (.ref v), some (.int left), some (.int right), some (.int most), some (.ref wl), some (.int one), some (.int other), b7, b8, b9, some (.int root), b11, b12] ∧ JInv K H v d e wl Hc st us way ∧ SpP K (joinBack (way.drop i) root) RInt v d e st H Q E)
            ⟨st, right, _, _, _, rfl, S, h⟩ (fun i σ Hc _ ⟨_, _, _, _, _, _, S, _⟩ => SqL.of S.wls) ?_ ?_
          · rintro i x σ H1 H2 hi ⟨st, root, b9, b11, b12, rfl, S, h⟩ ⟨rfl, hx⟩
            obtain ⟨a, nd, b, both, a2, y, rfl, ha, ha2, hy, h⟩ := step i x _ st root hi S h hx
            obtain ⟨C, dx, fs, sp, hv, hl, cC, cm, hsp⟩ := m_layN (P := P) (w := w) (base := base) T S.vat
            refine ⟨a, _, rfl, SqT.of ha, rfl, _, _, rfl, _, _, rfl, _, _, rfl, rfl, ?_⟩
            cases b with
            | true =>
              unfold joinBack at h
              refine ⟨_, rfl, _, rfl, iteT ⟨_, rfl, v, C, dx, fs, _, sp, rfl, hv, hl, cC, cm, _, rfl, a2, _, 0, _, rfl, rfl, SqT.of ha2, rfl, _, rfl, a2, _, 1, _, rfl, rfl, SqT.of ha2, rfl, _, rfl, a2, _, 2, _, rfl, rfl, SqT.of ha2, rfl, _, rfl, _, rfl, (by show 5 ≤ sizeLine; decide), fun p hp => ?_⟩⟩
              refine hsp nd.k y nd.w nd.l root both p _ _ hp hy ?_
              have sm := same_upd (o := .tup [kyV nd.k, y, .int nd.l, .int root, .int both]) (Same.refl H2) hp
              refine SpP.next (p := .ly (Nd.th ⟨nd.k, nd.w, nd.l, root, both⟩) .ret) (g := fun n => joinBack (way.drop (i + 1)) n) h (S.fr.trans (Fr.of sm)) fun n st1 u H3 fr1 V1 r1 q1 => ?_
              cases r1
              exact ⟨st1, n, _, _, _, rfl, (S.same sm).call fr1 V1, q1⟩
            | false =>
              unfold joinBack at h
              refine ⟨_, rfl, _, rfl, iteF ⟨_, rfl, v, C, dx, fs, _, sp, rfl, hv, hl, cC, cm, _, rfl, a2, _, 0, _, rfl, rfl, SqT.of ha2, rfl, _, rfl, a2, _, 1, _, rfl, rfl, SqT.of ha2, rfl, _, rfl, _, rfl, a2, _, 3, _, rfl, rfl, SqT.of ha2, rfl, _, rfl, (by show 5 ≤ sizeLine; decide), fun p hp => ?_⟩⟩
              refine hsp nd.k y nd.w root nd.r both p _ _ hp hy ?_
              have sm := same_upd (o := .tup [kyV nd.k, y, .int root, .int nd.r, .int both]) (Same.refl H2) hp
              refine SpP.next (p := .ly (Nd.th ⟨nd.k, nd.w, root, nd.r, both⟩) .ret) (g := fun n => joinBack (way.drop (i + 1)) n) h (S.fr.trans (Fr.of sm)) fun n st1 u H3 fr1 V1 r1 q1 => ?_
              cases r1
              exact ⟨st1, n, _, _, _, rfl, (S.same sm).call fr1 V1, q1⟩
          · rintro σ Hc ⟨st, root, b9, b11, b12, rfl, S, h⟩
            have e0 : way.drop us.reverse.length = [] := by
              rw [List.length_reverse, Paired.length S.nds]
              exact List.drop_length
            rw [e0] at h
            exact ⟨_, rfl, h.done S.fr S.vat rfl⟩
        · rw [if_neg hl0] at h
          have hr0 : right = 0 := hlr.resolve_left hl0
          refine eqB (by simp [hl0]) ⟨_, rfl, rfl, _, rfl, ?_⟩
          rw [dec_int]
          refine neB (by simp [hr0]) ?_
          refine ⟨_, rfl, _, rfl, rfl, _, rfl, ?_⟩
          rw [dec_int]
          refine neB (by simp [hl0]) ?_
          refine ⟨_, rfl, wl, us.reverse, rfl, SqL.of S.wls, ?_⟩
          refine for_it (walk_rev (xs := us.reverse)) (fun i σ Hc => ∃ st root b9 b11 b12, σ = [some (.ref v), some (.int left), some (.int right), some (.int most), some (.ref wl), some (.int one), some (.int other), b7, b8, b9, some (.int root), b11, b12] ∧ JInv K H v d e wl Hc st us way ∧ SpP K (joinBack (way.drop i) root) RInt v d e st H Q E)
            ⟨st, left, _, _, _, rfl, S, h⟩ (fun i σ Hc _ ⟨_, _, _, _, _, _, S, _⟩ => SqL.of S.wls) ?_ ?_
          · rintro i x σ H1 H2 hi ⟨st, root, b9, b11, b12, rfl, S, h⟩ ⟨rfl, hx⟩
            obtain ⟨a, nd, b, both, a2, y, rfl, ha, ha2, hy, h⟩ := step i x _ st root hi S h hx
            obtain ⟨C, dx, fs, sp, hv, hl, cC, cm, hsp⟩ := m_layN (P := P) (w := w) (base := base) T S.vat
            refine ⟨a, _, rfl, SqT.of ha, rfl, _, _, rfl, _, _, rfl, _, _, rfl, rfl, ?_⟩
            cases b with
            | true =>
              unfold joinBack at h
              refine ⟨_, rfl, _, rfl, iteT ⟨_, rfl, v, C, dx, fs, _, sp, rfl, hv, hl, cC, cm, _, rfl, a2, _, 0, _, rfl, rfl, SqT.of ha2, rfl, _, rfl, a2, _, 1, _, rfl, rfl, SqT.of ha2, rfl, _, rfl, a2, _, 2, _, rfl, rfl, SqT.of ha2, rfl, _, rfl, _, rfl, (by show 5 ≤ sizeLine; decide), fun p hp => ?_⟩⟩
              refine hsp nd.k y nd.w nd.l root both p _ _ hp hy ?_
              have sm := same_upd (o := .tup [kyV nd.k, y, .int nd.l, .int root, .int both]) (Same.refl H2) hp
              refine SpP.next (p := .ly (Nd.th ⟨nd.k, nd.w, nd.l, root, both⟩) .ret) (g := fun n => joinBack (way.drop (i + 1)) n) h (S.fr.trans (Fr.of sm)) fun n st1 u H3 fr1 V1 r1 q1 => ?_
              cases r1
              exact ⟨st1, n, _, _, _, rfl, (S.same sm).call fr1 V1, q1⟩
            | false =>
              unfold joinBack at h
              refine ⟨_, rfl, _, rfl, iteF ⟨_, rfl, v, C, dx, fs, _, sp, rfl, hv, hl, cC, cm, _, rfl, a2, _, 0, _, rfl, rfl, SqT.of ha2, rfl, _, rfl, a2, _, 1, _, rfl, rfl, SqT.of ha2, rfl, _, rfl, _, rfl, a2, _, 3, _, rfl, rfl, SqT.of ha2, rfl, _, rfl, (by show 5 ≤ sizeLine; decide), fun p hp => ?_⟩⟩
              refine hsp nd.k y nd.w root nd.r both p _ _ hp hy ?_
              have sm := same_upd (o := .tup [kyV nd.k, y, .int root, .int nd.r, .int both]) (Same.refl H2) hp
              refine SpP.next (p := .ly (Nd.th ⟨nd.k, nd.w, root, nd.r, both⟩) .ret) (g := fun n => joinBack (way.drop (i + 1)) n) h (S.fr.trans (Fr.of sm)) fun n st1 u H3 fr1 V1 r1 q1 => ?_
              cases r1
              exact ⟨st1, n, _, _, _, rfl, (S.same sm).call fr1 V1, q1⟩
          · rintro σ Hc ⟨st, root, b9, b11, b12, rfl, S, h⟩
            have e0 : way.drop us.reverse.length = [] := by
              rw [List.length_reverse, Paired.length S.nds]
              exact List.drop_length
            rw [e0] at h
            exact ⟨_, rfl, h.done S.fr S.vat rfl⟩
      · rw [if_neg hlr] at h
        have hl0 : ¬ left = 0 := fun z => hlr (.inl z)
        have hr0 : ¬ right = 0 := fun z => hlr (.inr z)
        rw [bind_assoc] at h
        refine ⟨_, rfl, rfl, _, rfl, ?_⟩
        rw [dec_int]
        refine eqB (by simp [hl0]) ⟨_, rfl, rfl, _, rfl, ?_⟩
        rw [dec_int]
        refine eqB (by simp [hr0]) ⟨fun σ' H' => ∃ st left right one other way us b7 b8 b9 b10 b11 b12, σ' = [some (.ref v), some (.int left), some (.int right), some (.int most), some (.ref wl), some (.int one), some (.int other), b7, b8, b9, b10, b11, b12] ∧ JInv K H v d e wl H' st us way ∧ us.length + m ≤ 40 ∧ SpP K ((joinDown m left right one other way).bind fun p => joinBack p.2 p.1) RInt v d e st H Q E, fun σ' H' z => ⟨m, Nat.lt_succ_self _, z⟩, ?_⟩
        refine ⟨_, rfl, _, rfl, _, rfl, v, d, e, st, left, one, rfl, S.vat, h.next S.fr fun na st1 u1 H1 fr1 V1 hn1 q1 => ?_⟩
        have S1 := S.call fr1 V1
        rw [bind_assoc] at q1
        refine ⟨_, rfl, _, rfl, _, rfl, v, d, e, st1, right, other, rfl, V1, q1.next S1.fr fun nb st2 u2 H2 fr2 V2 hn2 q2 => ?_⟩
        have S2 := S1.call fr2 V2
        have hn1' := hn1.mono (V1.tk fr2)
        obtain ⟨a1, y1, rfl, ha1, hy1, ok1⟩ := id hn1'
        obtain ⟨a2, y2, rfl, ha2, hy2, ok2⟩ := id hn2
        refine ⟨_, rfl, a1, _, 4, _, rfl, rfl, SqT.of ha1, rfl, _, rfl, a2, _, 4, _, rfl, rfl, SqT.of ha2, rfl, _, _, rfl, rfl, ?_⟩
        refine ⟨_, rfl, a1, _, 0, _, rfl, rfl, SqT.of ha1, rfl, _, rfl, a2, _, 0, _, rfl, rfl, SqT.of ha2, rfl, na.k, nb.k, rfl, fit_key ok1, fit_key ok2, fun H3 s3 => ⟨_, rfl, ?_⟩⟩
        have S3 := S2.same s3
        have hn1'' := hn1'.mono (TK.of s3)
        have hn2' := hn2.mono (TK.of s3)
        have len : us.reverse.length < sizeLine := by
          rw [List.length_reverse]
          exact Nat.lt_of_le_of_lt (show us.length ≤ 40 by omega) (by decide)
        by_cases hb : above na.k nb.k = true
        · rw [if_pos hb] at q2
          refine eqB hb ⟨_, rfl, .inl ⟨rfl, _, SqL.of S3.wls⟩, _, rfl, _, rfl, (by show 3 ≤ sizeLine; decide), fun p hp => ?_⟩
          have smp := same_upd (o := .tup [.ref a1, .bl true, .int (na.c + nb.c)]) (Same.refl H3) hp
          have S4 := S3.same smp
          have S5 := S4.push hwl (u := .ref p) (p := (na, true, na.c + nb.c)) ⟨p, .ref a1, rfl, upd_same, hn1''.mono (TK.of smp)⟩
          have ha1' := (tk_lst (ys := us.reverse ++ [V.ref p]) S4.wls) _ _ (smp _ _ (s3 _ _ ha1))
          refine ⟨wl, _, _, rfl, rfl, S4.wls, len, ?_⟩
          exact ⟨_, rfl, a1, _, 4, _, rfl, rfl, SqT.of ha1', rfl, _, rfl, a1, _, 3, _, rfl, rfl, SqT.of ha1', rfl, st2, na.r, right, na.c, other, _, _, _, _, _, _, _, _, rfl, S5, by rw [List.length_cons]; omega, q2⟩
        · rw [if_neg hb] at q2
          refine neB (by simpa using hb) ⟨_, rfl, .inl ⟨rfl, _, SqL.of S3.wls⟩, _, rfl, _, rfl, (by show 3 ≤ sizeLine; decide), fun p hp => ?_⟩
          have smp := same_upd (o := .tup [.ref a2, .bl false, .int (na.c + nb.c)]) (Same.refl H3) hp
          have S4 := S3.same smp
          have S5 := S4.push hwl (u := .ref p) (p := (nb, false, na.c + nb.c)) ⟨p, .ref a2, rfl, upd_same, hn2'.mono (TK.of smp)⟩
          have ha2' := (tk_lst (ys := us.reverse ++ [V.ref p]) S4.wls) _ _ (smp _ _ (s3 _ _ ha2))
          refine ⟨wl, _, _, rfl, rfl, S4.wls, len, ?_⟩
          exact ⟨_, rfl, a2, _, 4, _, rfl, rfl, SqT.of ha2', rfl, _, rfl, a2, _, 2, _, rfl, rfl, SqT.of ha2', rfl, st2, left, nb.l, one, nb.c, _, _, _, _, _, _, _, _, rfl, S5, by rw [List.length_cons]; omega, q2⟩
end
end PV
set_option Elab.async false
set_option linter.all false
set_option maxRecDepth 100000
set_option maxHeartbeats 4000000
/-! Trees: put, cut. -/
namespace PV
open PySem PySem.Spec PyProof.Rows L2
section
variable {P : Program} {w : World} {K : Frag} {mg : Str → Option Value} {base : Heap}
theorem c_put (T : Txt K mg) : Cal P w K mg base (L2.CX P w) 12 "put" ["vault", "root", "key", "worth"] (spPut K) := by
  have G := c_node_beneath (P := P) (w := w) (base := base) T
  have GA := c_ahead (P := P) (w := w) (base := base) T
  have GB := c_above (P := P) (w := w) (base := base) T
  have GP := c_part (P := P) (w := w) (base := base) T
  have GR := c_rebuilt (P := P) (w := w) (base := base) T
  refine T.d_put.cal (fun f fd F => F.okX sc_pu (fun vs H Q E h => ?_) (fun cdv A outer s H vs Q E hr h => ?_)) (fun _ _ _ _ _ _ us hl => match us, hl with | [_, _, _, _], _ => rfl)
  · obtain ⟨_, _, _, _, _, _, _, _, rfl, _⟩ := h
    rfl
  · obtain ⟨v, d, e, st, root, key, y, worth, rfl, hV, hk, hy, h⟩ := h
    have hr3 : Room 3 (A.deeper (envOfC "put" (defScope s_put) s.heap.objs.size f cdv)) := hr.mono (by decide)
    have hr4 : Room 4 (A.deeper (envOfC "put" (defScope s_put) s.heap.objs.size f cdv)) := hr.mono (by decide)
    have hr10 : Room 10 (A.deeper (envOfC "put" (defScope s_put) s.heap.objs.size f cdv)) := hr.mono (by decide)
    refine ⟨_, (pss_cons (ps_set (i := 4) sc_pu.nd rfl (.inl rfl) (pe_lst pa_nil)) <| pss_cons (ps_set (i := 5) sc_pu.nd rfl (.inl rfl) (pe_gint T.i_UNBOUND)) <| pss_cons (ps_while (passes_of rfl) (pt_cmpR op_ne (pv 1) pe_int (nomark _)) (pss_cons (ps_set (i := 6) sc_pu.nd rfl (.inl rfl) (pe_cal G hr4 (passes_call (takes_of rfl rfl rfl rfl) (fun _ _ _ _ h => h)) (pa_cons (pv 0) (pa_cons (pv 1) (pa_cons (pv 5) pa_nil))))) <| pss_cons (ps_if (pt_cmpR op_eq (pe_ix ix_tup (pv 6) pe_int (fun _ _ => rfl)) (pv 2) (nomark _)) (pss_one (ps_ret (pe_cal GR hr (passes_call (takes_of rfl rfl rfl rfl) (fun _ _ _ _ h => h)) (pa_cons (pv 0) (pa_cons (pv 4) (pa_cons (pv 2) (pa_cons (pe_methP (pv 0) hr10 (passes_call (takes_of rfl rfl rfl rfl) (fun _ _ _ _ h => h)) (pa_cons (pe_tup (pa_cons (pv 2) (pa_cons (pv 3) (pa_cons (pe_ix ix_tup (pv 6) pe_int (fun _ _ => rfl)) (pa_cons (pe_ix ix_tup (pv 6) pe_int (fun _ _ => rfl)) (pa_cons (pe_ix ix_tup (pv 6) pe_int (fun _ _ => rfl)) pa_nil)))))) pa_nil)) (pa_cons pe_int pa_nil)))))))) pss_nil) <| pss_cons (ps_if (pt_val (pe_cal GB hr10 pass0 (pa_cons (pv 2) (pa_cons (pe_ix ix_tup (pv 6) pe_int (fun _ _ => rfl)) pa_nil)))) (pss_cons (ps_asg (pe_cal GP hr (passes_call (takes_of rfl rfl rfl rfl) (fun _ _ _ _ h => h)) (pa_cons (pv 0) (pa_cons (pv 1) (pa_cons (pv 2) pa_nil)))) (pg_tup rfl (pgs_cons (pg_name (i := 7) sc_pu.nd rfl (.inl rfl)) (pgs_cons (pg_name (i := 8) sc_pu.nd rfl (.inl rfl)) pgs_nil)))) <| pss_one (ps_ret (pe_cal GR hr (passes_call (takes_of rfl rfl rfl rfl) (fun _ _ _ _ h => h)) (pa_cons (pv 0) (pa_cons (pv 4) (pa_cons (pv 2) (pa_cons (pe_methP (pv 0) hr10 (passes_call (takes_of rfl rfl rfl rfl) (fun _ _ _ _ h => h)) (pa_cons (pe_tup (pa_cons (pv 2) (pa_cons (pv 3) (pa_cons (pv 7) (pa_cons (pv 8) (pa_cons (pe_op op_add (pe_ix ix_tup (pv 6) pe_int (fun _ _ => rfl)) pe_int) pa_nil)))))) pa_nil)) (pa_cons pe_int pa_nil)))))))) pss_nil) <| pss_cons (ps_expr (pe_bm PySem.F.plainAttrs_list PySem.F.slot_list_append PySem.F.type_list_append mt_append (pv 4) (pa_cons (pv 6) pa_nil))) <| pss_cons (ps_set (i := 5) sc_pu.nd rfl (.inl rfl) (pe_ix ix_tup (pv 6) pe_int (fun _ _ => rfl))) <| pss_cons (ps_set (i := 1) sc_pu.nd rfl (.inl rfl) (pe_ix ix_tup (pv 6) pe_int (fun _ _ => rfl))) <| pss_one (ps_if (pt_val (pe_cal GA hr3 pass0 (pa_cons (pv 2) (pa_cons (pe_ix ix_tup (pv 6) pe_int (fun _ _ => rfl)) pa_nil)))) (pss_one (ps_set (i := 1) sc_pu.nd rfl (.inl rfl) (pe_ix ix_tup (pv 6) pe_int (fun _ _ => rfl)))) pss_nil))) <| pss_one (ps_ret (pe_cal GR hr (passes_call (takes_of rfl rfl rfl rfl) (fun _ _ _ _ h => h)) (pa_cons (pv 0) (pa_cons (pv 4) (pa_cons (pv 2) (pa_cons (pe_methP (pv 0) hr10 (passes_call (takes_of rfl rfl rfl rfl) (fun _ _ _ _ h => h)) (pa_cons (pe_tup (pa_cons (pv 2) (pa_cons (pv 3) (pa_cons pe_int (pa_cons pe_int (pa_cons pe_int pa_nil)))))) pa_nil)) (pa_cons pe_int pa_nil)))))))), ?_⟩
    unfold putQ at h
    refine ⟨Nat.zero_le _, fun wl hwl => ?_⟩
    have sm0 : Same H (L2.upd H wl (.lst [])) := same_upd (Same.refl _) hwl
    refine ⟨fun m σ Hc => ∃ st root c way us b6 b7 b8, σ = [some (.ref v), some (.int root), some (kyV key), some y, some (.ref wl), some (.int c), b6, b7, b8] ∧ WInv K H v d e wl Hc st us way ∧ us.length + m ≤ 40 ∧ SpP K (putP m root key worth c way) RInt v d e st H Q E,
      ⟨fuelP, st, root, 301, [], [], none, none, none, rfl, ⟨hV.same sm0, Fr.of sm0, upd_same, .nil⟩, (by decide), h⟩, ?_⟩
    rintro m σ Hc ⟨st, root, c, way, us, b6, b7, b8, rfl, S, hm, h⟩
    cases m with
    | zero => exact h.bad.elim
    | succ m =>
      unfold putP at h
      have hyc : ∀ {st : VS} {us : List V} {way : List Nd} {H1 : Hp}, WInv K H v d e wl H1 st us way → ThA H1 y worth := fun {_ _ _ _} S => hy.mono (hV.tk S.fr)
      -- the last lay, and what is behind it
      have end_ : ∀ (Hc : Hp) (st : VS) (us : List V) (way : List Nd) (l r c more : Int) (p : Addr), WInv K H v d e wl Hc st us way → Hc p = none →
          SpP K (.ly (Nd.th ⟨key, worth, l, r, c⟩) fun n => rebuiltP key more way n) RInt v d e st H Q E →
          SpP K (.ly (Nd.th ⟨key, worth, l, r, c⟩) .ret) RInt v d e st (L2.upd Hc p (.tup [kyV key, y, .int l, .int r, .int c])) (fun u H2 => ∃ n, u = .int n ∧ spRebuilt K [.ref v, .ref wl, kyV key, .int n, .int more] H2 Q E) E := by
        intro Hc st us way l r c more p S hp h
        have sm := same_upd (o := .tup [kyV key, y, .int l, .int r, .int c]) (Same.refl Hc) hp
        refine SpP.next (p := .ly (Nd.th ⟨key, worth, l, r, c⟩) .ret) (g := fun n => rebuiltP key more way n) h (S.fr.trans (Fr.of sm)) fun n st1 u H3 fr1 V1 r1 q1 => ?_
        have S2 := (S.same sm).call fr1 V1
        exact ⟨n, r1, v, d, e, st1, us, way, wl, key, n, more, rfl, V1, S2.wls, S2.nds, q1.fr S2.fr⟩
      refine ⟨_, rfl, rfl, _, rfl, ?_⟩
      rw [dec_int]
      by_cases h0 : root = 0
      · rw [if_pos h0] at h
        obtain ⟨C, dx, fs, sp, hv, hl, cC, cm, hsp⟩ := m_layN (P := P) (w := w) (base := base) T S.vat
        refine neB (by simp [h0]) ⟨_, rfl, _, rfl, _, rfl, _, rfl, v, C, dx, fs, _, sp, rfl, hv, hl, cC, cm, _, rfl, _, rfl, (by show 5 ≤ sizeLine; decide), fun p hp => ?_⟩
        refine hsp key y worth 0 0 1 p _ _ hp (hyc S) ((end_ Hc st us way 0 0 1 1 p S hp h).mono (Fr.refl _ _ _) fun H2 u a _ r k => ?_)
        obtain ⟨n, rfl, q⟩ := k r
        exact q
      · rw [if_neg h0] at h
        refine eqB (by simp [h0]) ⟨fun σ' H' => ∃ st root c way us b6 b7 b8, σ' = [some (.ref v), some (.int root), some (kyV key), some y, some (.ref wl), some (.int c), b6, b7, b8] ∧ WInv K H v d e wl H' st us way ∧ us.length + m ≤ 40 ∧ SpP K (putP m root key worth c way) RInt v d e st H Q E, fun σ' H' z => ⟨m, Nat.lt_succ_self _, z⟩, ?_⟩
        refine ⟨_, rfl, _, rfl, _, rfl, v, d, e, st, root, c, rfl, S.vat, h.next S.fr fun nd st1 u H1 fr1 V1 hn q => ?_⟩
        have S1 := S.call fr1 V1
        obtain ⟨a, yn, rfl, ha, hyn, ok⟩ := id hn
        refine ⟨_, rfl, a, _, 0, _, rfl, rfl, SqT.of ha, rfl, _, rfl, scal_ky _ _, _, rfl, ?_⟩
        rw [dec_kyV]
        by_cases hkk : nd.k = key
        · rw [if_pos hkk] at q
          obtain ⟨C, dx, fs, sp, hv, hl, cC, cm, hsp⟩ := m_layN (P := P) (w := w) (base := base) T V1
          refine eqB (decide_eq_true hkk) ⟨_, rfl, _, rfl, _, rfl, _, rfl, v, C, dx, fs, _, sp, rfl, hv, hl, cC, cm, _, rfl, _, rfl, _, rfl, a, _, 2, _, rfl, rfl, SqT.of ha, rfl, _, rfl, a, _, 3, _, rfl, rfl, SqT.of ha, rfl, _, rfl, a, _, 4, _, rfl, rfl, SqT.of ha, rfl, (by show 5 ≤ sizeLine; decide), fun p hp => ?_⟩
          refine hsp key y worth nd.l nd.r nd.c p _ _ hp (hyc S1) ((end_ H1 st1 us way nd.l nd.r nd.c 0 p S1 hp q).mono (Fr.refl _ _ _) fun H2 u a _ r k => ?_)
          obtain ⟨n, rfl, q⟩ := k r
          exact q
        rw [if_neg hkk] at q
        refine neB (decide_eq_false hkk) ?_
        refine ⟨_, rfl, _, rfl, a, _, 0, _, rfl, rfl, SqT.of ha, rfl, key, nd.k, rfl, hk, fit_key ok, fun H2 s2 => ⟨_, rfl, ?_⟩⟩
        have S2 := S1.same s2
        have ha2 := s2 _ _ ha
        have hn2 := hn.mono (TK.of s2)
        by_cases hb : above key nd.k = true
        · rw [if_pos hb] at q
          refine eqB hb ⟨_, rfl, _, rfl, _, rfl, v, d, e, st1, root, key, rfl, S2.vat, q.next S2.fr fun pr st3 u3 H3 fr3 V3 r3 q3 => ?_⟩
          obtain ⟨b, rfl, hbp⟩ := r3
          have S3 := S2.call fr3 V3
          have ha3 := S2.vat.tk fr3 _ _ ha2
          refine ⟨b, _, rfl, SqT.of hbp, rfl, _, _, rfl, _, _, rfl, rfl, ?_⟩
          obtain ⟨C, dx, fs, sp, hv, hl, cC, cm, hsp⟩ := m_layN (P := P) (w := w) (base := base) T V3
          refine ⟨_, rfl, _, rfl, _, rfl, _, rfl, v, C, dx, fs, _, sp, rfl, hv, hl, cC, cm, _, rfl, _, rfl, _, rfl, _, rfl, _, rfl, a, _, 4, _, rfl, rfl, SqT.of ha3, rfl, _, _, rfl, rfl, (by show 5 ≤ sizeLine; decide), fun p hp => ?_⟩
          refine hsp key y worth pr.1 pr.2 (nd.c + 1) p _ _ hp (hyc S3) ((end_ H3 st3 us way pr.1 pr.2 (nd.c + 1) 1 p S3 hp q3).mono (Fr.refl _ _ _) fun H2 u a _ r k => ?_)
          obtain ⟨n, rfl, q⟩ := k r
          exact q
        rw [if_neg hb] at q
        refine neB (by simpa using hb) ?_
        have S3 := S2.push hwl hn2
        refine ⟨_, rfl, .inl ⟨rfl, _, SqL.of S2.wls⟩, _, rfl, wl, _, _, rfl, rfl, S2.wls, ?_, ?_⟩
        · rw [List.length_reverse]
          exact Nat.lt_of_le_of_lt (show us.length ≤ 40 by omega) (by decide)
        have ha3 := tk_lst (ys := us.reverse ++ [V.ref a]) S2.wls _ _ ha2
        refine ⟨_, rfl, a, _, 4, _, rfl, rfl, SqT.of ha3, rfl, ?_⟩
        refine ⟨_, rfl, a, _, 3, _, rfl, rfl, SqT.of ha3, rfl, ?_⟩
        refine ⟨_, rfl, _, rfl, a, _, 0, _, rfl, rfl, SqT.of ha3, rfl, key, nd.k, rfl, _, rfl, ?_⟩
        by_cases hb2 : ahead key nd.k = true
        · rw [if_pos hb2] at q
          exact eqB hb2 ⟨_, rfl, a, _, 2, _, rfl, rfl, SqT.of ha3, rfl, st1, nd.l, nd.c, nd :: way, _ :: us, _, _, _, rfl, S3, by rw [List.length_cons]; omega, q⟩
        · rw [if_neg hb2] at q
          exact neB (by simpa using hb2) ⟨st1, nd.r, nd.c, nd :: way, _ :: us, _, _, _, rfl, S3, by rw [List.length_cons]; omega, q⟩
theorem c_cut (T : Txt K mg) : Cal P w K mg base (L2.CX P w) 12 "cut" ["vault", "root", "key"] (spCut K) := by
  have G := c_node_beneath (P := P) (w := w) (base := base) T
  have GA := c_ahead (P := P) (w := w) (base := base) T
  have GJ := c_joined (P := P) (w := w) (base := base) T
  have GR := c_rebuilt (P := P) (w := w) (base := base) T
  refine T.d_cut.cal (fun f fd F => F.okX sc_cu (fun vs H Q E h => ?_) (fun cdv A outer s H vs Q E hr h => ?_)) (fun _ _ _ _ _ _ us hl => match us, hl with | [_, _, _], _ => rfl)
  · obtain ⟨_, _, _, _, _, _, rfl, _⟩ := h
    rfl
  · obtain ⟨v, d, e, st, root, key, rfl, hV, h⟩ := h
    have hr3 : Room 3 (A.deeper (envOfC "cut" (defScope s_cut) s.heap.objs.size f cdv)) := hr.mono (by decide)
    have hr4 : Room 4 (A.deeper (envOfC "cut" (defScope s_cut) s.heap.objs.size f cdv)) := hr.mono (by decide)
    refine ⟨_, (pss_cons (ps_set (i := 3) sc_cu.nd rfl (.inl rfl) (pv 1)) <| pss_cons (ps_set (i := 4) sc_cu.nd rfl (.inl rfl) (pe_lst pa_nil)) <| pss_cons (ps_set (i := 5) sc_cu.nd rfl (.inl rfl) (pe_gint T.i_UNBOUND)) <| pss_cons (ps_while (passes_of rfl) (pt_cmpR op_ne (pv 1) pe_int (nomark _)) (pss_cons (ps_set (i := 6) sc_cu.nd rfl (.inl rfl) (pe_cal G hr4 (passes_call (takes_of rfl rfl rfl rfl) (fun _ _ _ _ h => h)) (pa_cons (pv 0) (pa_cons (pv 1) (pa_cons (pv 5) pa_nil))))) <| pss_cons (ps_if (pt_cmpR op_eq (pe_ix ix_tup (pv 6) pe_int (fun _ _ => rfl)) (pv 2) (nomark _)) (pss_one (ps_ret (pe_cal GR hr (passes_call (takes_of rfl rfl rfl rfl) (fun _ _ _ _ h => h)) (pa_cons (pv 0) (pa_cons (pv 4) (pa_cons (pv 2) (pa_cons (pe_cal GJ hr (passes_call (takes_of rfl rfl rfl rfl) (fun _ _ _ _ h => h)) (pa_cons (pv 0) (pa_cons (pe_ix ix_tup (pv 6) pe_int (fun _ _ => rfl)) (pa_cons (pe_ix ix_tup (pv 6) pe_int (fun _ _ => rfl)) (pa_cons (pe_ix ix_tup (pv 6) pe_int (fun _ _ => rfl)) pa_nil))))) (pa_cons (pe_un un_neg pe_int) pa_nil)))))))) pss_nil) <| pss_cons (ps_expr (pe_bm PySem.F.plainAttrs_list PySem.F.slot_list_append PySem.F.type_list_append mt_append (pv 4) (pa_cons (pv 6) pa_nil))) <| pss_cons (ps_set (i := 5) sc_cu.nd rfl (.inl rfl) (pe_ix ix_tup (pv 6) pe_int (fun _ _ => rfl))) <| pss_cons (ps_set (i := 1) sc_cu.nd rfl (.inl rfl) (pe_ix ix_tup (pv 6) pe_int (fun _ _ => rfl))) <| pss_one (ps_if (pt_val (pe_cal GA hr3 pass0 (pa_cons (pv 2) (pa_cons (pe_ix ix_tup (pv 6) pe_int (fun _ _ => rfl)) pa_nil)))) (pss_one (ps_set (i := 1) sc_cu.nd rfl (.inl rfl) (pe_ix ix_tup (pv 6) pe_int (fun _ _ => rfl)))) pss_nil))) <| pss_one (ps_ret (pv 3))), ?_⟩
    unfold cutQ at h
    refine ⟨_, rfl, Nat.zero_le _, fun wl hwl => ?_⟩
    have sm0 : Same H (L2.upd H wl (.lst [])) := same_upd (Same.refl _) hwl
    obtain ⟨whole, hw0⟩ : ∃ x, x = root := ⟨_, rfl⟩
    rw [← hw0] at h
    have h' : SpP K (cutP whole fuelP root key 301 []) RInt v d e st H Q E := by rw [← hw0]; exact h
    rw [show (some (V.int root) : Option V) = some (V.int root) from rfl]
    refine ⟨fun m σ Hc => ∃ st root c way us b6, σ = [some (.ref v), some (.int root), some (kyV key), some (.int whole), some (.ref wl), some (.int c), b6] ∧ WInv K H v d e wl Hc st us way ∧ us.length + m ≤ 40 ∧ SpP K (cutP whole m root key c way) RInt v d e st H Q E,
      ⟨fuelP, st, root, 301, [], [], none, by rw [hw0]; rfl, ⟨hV.same sm0, Fr.of sm0, upd_same, .nil⟩, (by decide), h'⟩, ?_⟩
    clear h h' hw0
    rintro m σ Hc ⟨st, root, c, way, us, b6, rfl, S, hm, h⟩
    cases m with
    | zero => exact h.bad.elim
    | succ m =>
      unfold cutP at h
      refine ⟨_, rfl, rfl, _, rfl, ?_⟩
      rw [dec_int]
      by_cases h0 : root = 0
      · rw [if_pos h0] at h
        exact neB (by simp [h0]) ⟨_, rfl, h.done S.fr S.vat rfl⟩
      · rw [if_neg h0] at h
        refine eqB (by simp [h0]) ⟨fun σ' H' => ∃ st root c way us b6, σ' = [some (.ref v), some (.int root), some (kyV key), some (.int whole), some (.ref wl), some (.int c), b6] ∧ WInv K H v d e wl H' st us way ∧ us.length + m ≤ 40 ∧ SpP K (cutP whole m root key c way) RInt v d e st H Q E, fun σ' H' z => ⟨m, Nat.lt_succ_self _, z⟩, ?_⟩
        refine ⟨_, rfl, _, rfl, _, rfl, v, d, e, st, root, c, rfl, S.vat, h.next S.fr fun nd st1 u H1 fr1 V1 hn q => ?_⟩
        have S1 := S.call fr1 V1
        obtain ⟨a, yn, rfl, ha, hyn, ok⟩ := id hn
        refine ⟨_, rfl, a, _, 0, _, rfl, rfl, SqT.of ha, rfl, _, rfl, scal_ky _ _, _, rfl, ?_⟩
        rw [dec_kyV]
        by_cases hkk : nd.k = key
        · rw [if_pos hkk] at q
          refine eqB (decide_eq_true hkk) ⟨_, rfl, _, rfl, _, rfl, _, rfl, _, rfl, a, _, 2, _, rfl, rfl, SqT.of ha, rfl, _, rfl, a, _, 3, _, rfl, rfl, SqT.of ha, rfl, _, rfl, a, _, 4, _, rfl, rfl, SqT.of ha, rfl, v, d, e, st1, nd.l, nd.r, nd.c, rfl, V1, q.next S1.fr fun n st3 u3 H3 fr3 V3 r3 q3 => ?_⟩
          cases r3
          have S3 := S1.call fr3 V3
          exact ⟨_, rfl, v, d, e, st3, us, way, wl, key, n, -1, rfl, V3, S3.wls, S3.nds, q3.fr S3.fr⟩
        rw [if_neg hkk] at q
        refine neB (decide_eq_false hkk) ?_
        have S3 := S1.push hwl hn
        refine ⟨_, rfl, .inl ⟨rfl, _, SqL.of S1.wls⟩, _, rfl, wl, _, _, rfl, rfl, S1.wls, ?_, ?_⟩
        · rw [List.length_reverse]
          exact Nat.lt_of_le_of_lt (show us.length ≤ 40 by omega) (by decide)
        have ha3 := tk_lst (ys := us.reverse ++ [V.ref a]) S1.wls _ _ ha
        refine ⟨_, rfl, a, _, 4, _, rfl, rfl, SqT.of ha3, rfl, ?_⟩
        refine ⟨_, rfl, a, _, 3, _, rfl, rfl, SqT.of ha3, rfl, ?_⟩
        refine ⟨_, rfl, _, rfl, a, _, 0, _, rfl, rfl, SqT.of ha3, rfl, key, nd.k, rfl, _, rfl, ?_⟩
        by_cases hb2 : ahead key nd.k = true
        · rw [if_pos hb2] at q
          exact eqB hb2 ⟨_, rfl, a, _, 2, _, rfl, rfl, SqT.of ha3, rfl, st1, nd.l, nd.c, nd :: way, _ :: us, _, rfl, S3, by rw [List.length_cons]; omega, q⟩
        · rw [if_neg hb2] at q
          exact neB (by simpa using hb2) ⟨st1, nd.r, nd.c, nd :: way, _ :: us, _, rfl, S3, by rw [List.length_cons]; omega, q⟩
end
end PV
set_option Elab.async false
set_option linter.all false
set_option maxRecDepth 100000
set_option maxHeartbeats 4000000
/-! A list comprehension whose element may raise. -/
namespace PV
open PySem PySem.Spec PyProof.Rows L2
theorem traced_but {h hh gr : Heap} {ee cc : Addr} {zz : Obj → Prop} {fl : Value} {mm : Str → Option Value} (hn : h.Ns cc mm) (sb : Heap.SameBut cc h hh) (t : HandSPX.TracedZ h gr ee zz fl) : HandSPX.TracedZ hh gr ee zz fl := by
  obtain ⟨oe, vs, tb, ot, ts, a1, a2, a3, a4, a5, a6, a7, a8, a9⟩ := t
  obtain ⟨oc, es, ep, c1, c2, _⟩ := hn
  have n1 : ee ≠ cc := fun z => by
    rw [z, c1] at a1
    cases a1
    rw [c2] at a3
    cases a3
  have n2 : tb ≠ cc := fun z => by
    rw [z, c1] at a7
    cases a7
    rw [c2] at a8
    cases a8
  exact ⟨oe, vs, tb, ot, ts, (sb.2 ee n1).trans a1, a2, a3, a4, a5, a6, (sb.2 tb n2).trans a7, a8, a9⟩
/-- an exception of the element, behind the block -/
theorem noted_out {X : Cx} {E : XK} {pins0 pins9 : List (Addr × Obj)} {σ0 σ9 : L2.St} {H3 H9 : Hp} {s3 s9 sx : Shared} {scope : Scope} {ce : Env} {fp : List Addr} {u : Value} (hs : X.stack = X.env :: X.outer) (hf : X.env.frame = some X.env.locals)
    (tk : Takes X (fun cls d _ H => E cls d H)) (I3 : Inv X pins0 σ0 H3 s3)
    (hch : ∀ b ∈ fp, (b ∈ X.ex ∨ X.s_0.heap.objs.size ≤ b) ∧ b ≠ X.env.locals ∧ (∀ x c, X.env.cells.lookup x = some c → c ≠ b) ∧ ∀ p ∈ X.pn ++ pins0, p.1 ≠ b)
    (cF : ce.frame = X.env.frame) (cL : ce.locals = s3.heap.objs.size) (I9 : Inv (X.blk s3 H3 scope ce fp) pins9 σ9 H9 s9) (c : L2.CX X.prog X.w X.stack H9 s9 E u sx) :
    notedBy (model X.prog X.w) X.A ce (CompFails (model X.prog X.w) X.A X.xe ce) u sx := by
  obtain ⟨a, B, Hx, cls, d, rfl, fl, hok, ub, na, os, ag, hE⟩ := c
  have hC9 : H9 ce.locals = none := I9.free
  obtain ⟨m9, n9, _⟩ := I9.loc
  have n9 : s9.heap.Ns ce.locals m9 := n9
  obtain ⟨oC, es, ep, c1, c2, c3⟩ := id n9
  have small : ∀ {b : Addr} {o : Obj}, s3.heap.get? b = some o → b ≠ ce.locals := fun {b o} e z => by
    have q := Heap.lt_size e
    rw [z, cL] at q
    exact Nat.lt_irrefl _ q
  have hfrm : ∀ {b : Addr}, b ∈ frs X.stack → ∃ o, s3.heap.get? b = some o ∧ ∀ vs, o.data ≠ .fields vs := fun {b} hb => by
    obtain ⟨_, o, e, q⟩ := I3.stack.mem hb
    exact ⟨o, e, q⟩
  have cfr : ce.locals ∉ frs X.stack := fun hm => by
    obtain ⟨o, e, _⟩ := hfrm hm
    exact small e rfl
  have bC : B.get? ce.locals = some oC := ub.keep _ oC c1 hC9 cfr
  have nx : sx.heap.Ns ce.locals m9 := ⟨oC, es, ep, fl.1 _ oC bC, c2, c3⟩
  have hxC : Hx ce.locals = none := ub.free _ oC c1 hC9
  obtain ⟨B', g1, g2⟩ := restrict B fun b => decide (b ≠ ce.locals)
  have sub : ∀ {b : Addr} {o : Obj}, B'.get? b = some o → B.get? b = some o ∧ b ≠ ce.locals := fun {b o} e => by
    by_cases q : b = ce.locals
    · rw [g2 b (by simp [q])] at e
      cases e
    · rw [g1 b (by simp [q])] at e
      exact ⟨e, q⟩
  have non : ∀ {b : Addr}, B.get? b = none → B'.get? b = none := fun {b} e => by
    cases q : B'.get? b with
    | none => rfl
    | some o =>
      rw [(sub q).1] at e
      cases e
  have keepB : ∀ {b : Addr} {o : Obj}, B.get? b = some o → b ≠ ce.locals → B'.get? b = some o := fun {b o} e q => by
    rw [g1 b (by simp [q])]
    exact e
  obtain ⟨f1, f2, f3, f4⟩ := fl
  have fl2 : HandSPX.FlyingZ B' X.stack a (Zc cls d) sx.heap := by
    refine ⟨fun b o e => f1 b o (sub e).1, non f2, funFrames_none f3 fun b hb => non (f3.mem hb).1, ?_⟩
    obtain ⟨oe, vs, tb, ot, ts, a1, a2, a3, a4, a5, a6, a7, a8, a9⟩ := f4
    exact ⟨oe, vs, tb, ot, ts, a1, a2, a3, a4, non a5, a6, a7, a8, a9⟩
  have hfr : X.A.frames = some (X.env :: X.outer) := by rw [I3.ok.frames, hs]
  rw [hs] at fl2
  show wpAny _ _ (noteFrame (.ref a) ce) _ _ sx
  rw [noteFrame_env _ cF]
  refine HandSPX.looks_onZ Zc.steady hfr hf fl2 fun h1 hh1 up1 => ?_
  have n1 : h1.Ns ce.locals m9 := nx.upToSlots up1
  refine ⟨m9, n1, fun h2 m2 hn2 sb2 => ?_⟩
  obtain ⟨k1, k2, k3, k4⟩ := hh1
  have bn : B'.get? ce.locals = none := g2 _ (by simp)
  have k1' : B'.StaysIn h2 := fun b o e => (sb2.2 b (sub e).2).trans (k1 b o e)
  have k3' : h2.FunFrames B' (X.env :: X.outer) := Heap.FunFrames.sameBut sb2 hn2 k3
  have k4' := traced_but n1 sb2 k4
  obtain ⟨oe, vs, tb, ot, ts, a1, a2, a3, a4, a5, a6, a7, a8, a9⟩ := id k4'
  unfold PySem.passOn
  refine wpAny_bind (wpAny_field a1 a3 a4 ?_)
  rw [if_neg (show ¬ ((Value.ref tb == Value.none) = true) from by simp), cF, hf]
  refine wpAny_bind (HandSPX.setFlight_onZ ⟨k1', k2, k3', k4'⟩ fun h3 hh3 up3 => wpAny_throw ?_)
  obtain ⟨G, q1, q2⟩ := restrict h3 fun b => (B'.get? b).isSome || decide (b ∈ frs X.stack)
  have st3 : B'.StaysIn h3 := hh3.1
  have gB : ∀ b o, B'.get? b = some o → G.get? b = some o := fun b o e => (q1 b (by simp [e])).trans (st3 b o e)
  have gF : ∀ {b : Addr}, b ∈ frs X.stack → G.get? b = h3.get? b := fun {b} hb => q1 b (by simp [hb])
  have og : ∀ {b : Addr} {o : Obj}, G.get? b = some o → h3.get? b = some o ∧ ((B'.get? b).isSome = true ∨ b ∈ frs X.stack) := fun {b o} e => by
    cases q : ((B'.get? b).isSome || decide (b ∈ frs X.stack)) with
    | false =>
      rw [q2 b q] at e
      cases e
    | true =>
      rw [q1 b q] at e
      refine ⟨e, ?_⟩
      simpa [Bool.or_eq_true] using q
  have exn : ∀ {b : Addr}, b ∈ frs X.stack → b ∉ fp := fun {b} hb z => I9.ok.exfs b z hb
  -- a frame's object, through all
  have fch : ∀ {b : Addr} {o : Obj}, s3.heap.get? b = some o → b ∈ frs X.stack → ∃ sl, G.get? b = some { o with slots := sl } := fun {b o} e hb => by
    obtain ⟨o2, e2, hnf⟩ := hfrm hb
    rw [e] at e2
    cases e2
    obtain ⟨sl1, e3⟩ := I9.base.slot b o e (I3.stkFree b hb) hb (exn hb)
    obtain ⟨sl2, e4⟩ := ub.slot b _ e3 hb
    obtain ⟨sl3, e5⟩ := up1 b _ e4 hnf
    have e6 := (sb2.2 b (small e)).trans e5
    obtain ⟨sl4, e7⟩ := up3 b _ e6 hnf
    exact ⟨sl4, (gF hb).trans e7⟩
  refine tk _ _ ⟨a, B', { s3 with heap := G, gens := sx.gens, drawn := sx.drawn, toks := sx.toks }, pins0, σ0, Hx, cls, d, rfl, ?_, fun b o e hb => ?_, Heap.UpToSlots.of_keeps fun b o e => (og e).1, .inr (.inr ?_), na, os.trans I9.os, ag, hE⟩
  · refine I3.call (ch := fp) ⟨fun b o e n hb hx => ?_, fun b o e n hb hx => fch e hb, fun b o e n hx => ?_, fun b o e hx => ?_, fun b xs e => ub.tups b xs (I9.base.tups b xs e), fun b o w e => ub.frzs b o w (I9.base.frzs b o w e), fun b ps e => ?_⟩ ?_ ag hch
    · exact gB b o (keepB (ub.keep b o (I9.base.keep b o e n hb hx) (I9.base.free b o e n hx) hb) (small e))
    · obtain ⟨o2, e2⟩ := I9.base.there b o e hx
      exact ub.free b o2 e2 (I9.base.free b o e n hx)
    · by_cases hb : b ∈ frs X.stack
      · obtain ⟨sl, q⟩ := fch e hb
        exact ⟨_, q⟩
      · obtain ⟨o2, e2⟩ := I9.base.there b o e hx
        obtain ⟨o3, e3⟩ := ub.there b o2 e2 hb
        exact ⟨o3, gB b o3 (keepB e3 (small e))⟩
    · obtain ⟨p1, e1⟩ := I9.base.tbls b ps e
      obtain ⟨p2, e2⟩ := ub.tbls b _ e1
      exact ⟨p1 ++ p2, by rw [e2, Array.append_assoc]⟩
    · intro b o q
      refine (hok b o q).stay (fun cc w hc r => gB cc w (keepB r fun z => ?_)) (fun _ r => r) fun _ _ r => r
      rcases hc with hc | hc
      · rw [← hc, z, hxC] at q
        cases q
      · rw [z, hxC] at hc
        cases hc
  · obtain ⟨e1, q⟩ := og e
    rcases q with q | q
    · obtain ⟨o2, e2⟩ := Option.isSome_iff_exists.mp q
      have e3 := st3 b o2 e2
      rw [e1] at e3
      cases e3
      exact e2
    · exact absurd q hb
  · show HandSPX.HeldZ B' X.stack a (Zc cls d) X.env.locals h3
    rw [hs]
    exact hh3
end PV
set_option Elab.async false
set_option linter.all false
set_option maxRecDepth 100000
set_option maxHeartbeats 4000000
/-! [e for x in xs], e may raise. -/
namespace PV
open PySem PySem.Spec PyProof.Rows L2
section
variable {X : Cx} {E : XK}
theorem pe_lcX {elt tg iter : Expr} {scope : Scope} {own : List (Str × Nat)} {pos : Pos} {wi : TI} {g : TG} {te : TE} (hst : X.stack = X.env :: X.outer) (hfr : X.env.frame = some X.env.locals) (tk : Takes X (fun cls d _ H => E cls d H)) (hc : X.calm = true) (hN : X.N.Nodup) (hi : PI X tg iter wi) (ok : BlkOk X.N X.env.scope scope own)
    (hg : ∀ (s : Shared) (H : Hp) (C : Addr) (cl : List (Str × Addr)) (fp : List Addr), PG (X.blk s H scope (compEnvC scope cl C X.env) fp) tg g)
    (he : ∀ (s : Shared) (H : Hp) (C : Addr) (cl : List (Str × Addr)) (fp : List Addr) (xe : Value → Shared → Prop), Passes (L2.CX X.prog X.w) ((X.blk s H scope (compEnvC scope cl C X.env) fp).wish xe) E → PE ((X.blk s H scope (compEnvC scope cl C X.env) fp).wish xe) elt te)
    (hs : ∀ x, foldedSetIterable iter X.env x = pure x := by intro _; rfl) :
    PE X (.ListComp elt [⟨tg, iter, [], 0⟩] scope pos) (tLc wi g tYes te (own.map (·.2))) := by
  refine ⟨fun pins s σ H Q I h => ?_⟩
  have free : ∀ y ∈ scope.names, y.2 = .free → ∃ c, X.env.cells.lookup y.1 = some c := by
    intro y hy e
    exact (ok.free y hy e).elim (fun k => I.ok.has _ (.inl k)) (fun k => I.ok.has _ (.inr k))
  rw [eval_ListComp]
  refine comprehension_at (use := none) rfl hs (closure_ok free) ok.kind (fun y hy e => (ok.uniq y hy).trans (congrArg some e)) ?_
  refine thn (hi.run pins s σ H _ I h) fun xv sa ha => ?_
  refine thn ha fun itv sb hb => ?_
  obtain ⟨it, fp, tn, J, H2, rfl, I2, T, st2, f2, q⟩ := hb
  refine wpAny_newObj_type (newEnv_comp ?_) (by show 0 ≤ sizeLine; decide)
  obtain ⟨D, hD⟩ : ∃ D, D = sb.heap.objs.size := ⟨_, rfl⟩
  rw [← hD]
  have hDn : H2 D = none := I2.hok.fresh (Nat.le_of_eq hD.symm)
  obtain ⟨W, ⟨m0, w0⟩, turn⟩ := q D hDn
  obtain ⟨sc, hsc⟩ : ∃ sc : Shared, sc = { sb with heap := sb.heap.push { cls := .type "list", data := .seq ([] : List Value).toArray } } := ⟨_, rfl⟩
  rw [← hsc]
  have hsz : sc.heap = sb.heap.push { cls := .type "list", data := .seq ([] : List Value).toArray } := by rw [hsc]
  have I3 : Inv X pins σ (upd H2 D (.lst [])) sc := by
    rw [hsc]
    refine I2.laid (t' := sb.toks) (fun b o z => Heap.get?_push_of_some _ z) (Nat.le_of_eq hD.symm) ⟨Nat.zero_le _, [], 0, .nil, ?_⟩
    rw [hD]
    exact Heap.get?_push_size _ rfl
  have lts : ∀ b ∈ fp, b < sb.heap.objs.size := by
    intro b hb
    obtain ⟨o, z, _⟩ := T.obj _ _ st2 b hb
    exact Heap.lt_size z
  have f3 : ∀ b ∈ fp, FpOk X pins (upd H2 D (.lst [])) b ∧ b < sc.heap.objs.size := by
    intro b hb
    have z := lts b hb
    refine ⟨⟨?_, (f2 b hb).2⟩, ?_⟩
    · rw [upd_ne (by rw [hD]; exact Nat.ne_of_lt z)]
      exact (f2 b hb).1
    · rw [hsz, Heap.size_push]
      exact Nat.lt_succ_of_lt z
  have st3 : tn 0 sc.heap := T.keep _ _ _ st2 (by
    intro b _ o z
    rw [hsz]
    exact Heap.get?_push_of_some _ z)
  have I4 := block_start I3 ok hN f3
  have pg := hg sc (upd H2 D (.lst [])) sc.heap.objs.size (cellsFrom (sc.heap.objs.size + 1) scope.names (cloFrom X.env.cells scope.names [])) fp
  have pe := he sc (upd H2 D (.lst [])) sc.heap.objs.size (cellsFrom (sc.heap.objs.size + 1) scope.names (cloFrom X.env.cells scope.names [])) fp
  show codeAny _ _ (.compStart (.ListComp elt [⟨tg, iter, [], 0⟩] scope pos) 0 (.ref it) (.ref D) (compEnvC scope (cellsFrom (sc.heap.objs.size + 1) scope.names (cloFrom X.env.cells scope.names [])) sc.heap.objs.size X.env))
    (compEnds (model X.prog X.w) X.A X.xe none (EP X pins σ Q) (.ref D) (compEnvC scope (cellsFrom (sc.heap.objs.size + 1) scope.names (cloFrom X.env.cells scope.names [])) sc.heap.objs.size X.env)) { sc with heap := pushCells (sc.heap.push { cls := .type "dict", data := .dict #[] }) scope.names }
  have non3 : ∀ b ∈ fp, (upd H2 D (.lst [])) b = none := fun b hb => (f3 b hb).1.1
  generalize hce : compEnvC scope (cellsFrom (sc.heap.objs.size + 1) scope.names (cloFrom X.env.cells scope.names [])) sc.heap.objs.size X.env = ce at I4 pg pe ⊢
  have cL : ce.locals = sc.heap.objs.size := by rw [← hce]; rfl
  have cF : ce.frame = X.env.frame := by rw [← hce]; rfl
  generalize hH3 : upd H2 D (.lst []) = H3 at I3 I4 pg pe w0 non3 f3
  generalize hsd : ({ sc with heap := pushCells (sc.heap.push { cls := .type "dict", data := .dict #[] }) scope.names } : Shared) = sd at I4 ⊢
  have st4 : tn 0 sd.heap := T.keep _ _ _ st3 (by
    intro b _ o z
    rw [← hsd]
    exact pushCells_keeps _ _ _ _ (Heap.get?_push_of_some _ z))
  have hch : ∀ b ∈ fp, (b ∈ X.ex ∨ X.s_0.heap.objs.size ≤ b) ∧ b ≠ X.env.locals ∧ (∀ x c, X.env.cells.lookup x = some c → c ≠ b) ∧ ∀ p ∈ X.pn ++ pins, p.1 ≠ b := by
    intro b hb
    obtain ⟨_, z1, z2, z3, z4, z5⟩ := (f3 b hb).1
    exact ⟨z3, z1, z4, z5⟩
  have stat : ∀ {τ : L2.St} {H' : Hp} {s' : Shared}, Inv (X.blk sc H3 scope ce fp) [] τ H' s' → (∀ b ∈ fp, H' b = none) → ∀ b ∈ fp, FpOk (X.blk sc H3 scope ce fp) [] H' b := by
    intro τ H' s' J hn b hb
    refine ⟨hn b hb, (J.ok.exf b hb).1, J.ok.exfs b hb, .inl hb, fun x c z => (J.ok.exf b hb).2 x c z, fun p hp => ?_⟩
    have hp : p ∈ ([] : List (Addr × Obj)) ++ [] := hp
    simp at hp
  obtain ⟨R, hR⟩ : ∃ R : Result → Shared → Prop, R = compEnds (model X.prog X.w) X.A X.xe none (EP X pins σ Q) (.ref D) ce := ⟨_, rfl⟩
  rw [← hR]
  have loop : codeAny (model X.prog X.w) X.A (.compLoop (.ListComp elt [⟨tg, iter, [], 0⟩] scope pos) 0 (.ref it) (.ref D) ce) R sd := by
    refine compLoop_any (fun n s' => ∃ i H', Inv (X.blk sc H3 scope ce fp) [] (wipe σ (own.map (·.2))) H' s' ∧ tn i s'.heap ∧ (∀ b ∈ fp, H' b = none) ∧ W i n H') ?_ m0 ⟨0, H3, I4, st4, non3, w0⟩
    rintro n s5 ⟨i, H5, I5, st5, n5, w5⟩
    rcases turn i n H5 w5 with ⟨stop, qq⟩ | ⟨go, Nx, hNx, step⟩
    · refine thnF (T.done (X.blk sc H3 scope ce fp) rfl rfl rfl hc i [] s5 _ H5 (fun _ _ => False) I5 (stat I5 n5) st5 stop) fun r s6 h6 => ?_
      obtain ⟨rfl, I6⟩ := h6
      have I7 : Inv X pins σ H5 s6 := I3.call' (ch := fp) I6.os I6.base I6.hok I6.bare hch
      have nC : H5 ce.locals = none := I6.free
      obtain ⟨mm, hn, _⟩ := I6.loc
      rw [hR]
      refine ⟨mm, hn, fun hz sbt => ?_⟩
      have fz := I3.fpOk (b := ce.locals) (H' := H5) (Nat.le_of_eq cL.symm) nC
      obtain ⟨z0, z1, z2, z3, z4, z5⟩ := fz
      exact ⟨.ref D, H5, I7.turned (t' := s6.toks) (fun b o hb z => (sbt.2 b hb).trans z) z0 z1 z3 z4 z5, rfl, qq⟩
    · refine thnF (T.item (X.blk sc H3 scope ce fp) rfl rfl rfl hc i [] s5 _ H5 (fun _ _ => False) I5 (stat I5 n5) st5 go) fun r s6 h6 => ?_
      obtain ⟨u, rfl, h6⟩ := h6
      refine thnF h6 fun _ s7 h7 => ?_
      obtain ⟨x, H7, I7, r7, y7, st7, n7⟩ := h7
      have I7p := I7.pinned (stat I7 n7) (T.obj _ _ st7)
      refine thnF (pg.run _ s7 _ H7 x u _ I7p r7 (step x H7 y7)) fun _ s8 h8 => ?_
      obtain ⟨σ8, H8, I8, hw8, q8⟩ := h8
      have q8 : te σ8 H8 fun y H4 => ∃ acc, H4 D = some (.lst acc) ∧ acc.length < sizeLine ∧ Nx (upd H4 D (.lst (acc ++ [y]))) := by
        have z := q8
        simp only [tYes, if_true] at z
        exact z
      refine wpAny_tests_nil ?_
      rw [if_pos rfl]
      have fin : ∀ {s' : Shared} {H' : Hp}, Inv (X.blk sc H3 scope ce fp) ([] ++ pinsAt fp s7.heap) σ8 H' s' → Nx H' → ∃ m, m < n ∧ ∃ i H', Inv (X.blk sc H3 scope ce fp) [] (wipe σ (own.map (·.2))) H' s' ∧ tn i s'.heap ∧ (∀ b ∈ fp, H' b = none) ∧ W i m H' := by
        intro s' H' J nx
        obtain ⟨m', hm, w'⟩ := hNx H' nx
        have pin' : ∀ b ∈ fp, ∀ o, s7.heap.get? b = some o → s'.heap.get? b = some o ∧ H' b = none := by
          intro b hb o z
          have y := J.pin (b, o) (List.mem_append_right _ (List.mem_append_right _ (mem_pinsAt hb z)))
          exact ⟨y.1, y.2.1⟩
        refine ⟨m', hm, i + 1, H', (J.unpinned (pins := [])).weak (by rw [← hw8, wipe_length]) (fun j v z => ?_), T.keep _ _ _ st7 (fun b hb o z => (pin' b hb o z).1), fun b hb => ?_, w'⟩
        · rw [← hw8] at z
          exact (wipe_some z).1
        · obtain ⟨o, z, _⟩ := T.obj _ _ st7 b hb
          exact (pin' b hb o z).2
      have run := (pe (fun e s' => notedBy (model X.prog X.w) X.A ce (fun e s' => R (.error e) s') e s') (fun pins9 σ9 H9 s9 ee sx J cc => by
        rw [hR]
        exact noted_out hst hfr tk I3 hch cF cL J.unwish cc)).run _ s8 σ8 H8 _ (I8.wish _) q8
      refine wpAny_mono run (fun z s10 h10 => ?_) fun _ _ z => z
      obtain ⟨yv, H10, I10, r10, acc, hD10, hz10, nx⟩ := h10
      exact app_ok (X := X.blk sc H3 scope ce fp) I10.unwish hD10 hz10 r10 fun s11 I11 => fin I11 nx
  exact codeAny_compStart_list loop (T.self X.A 0 _ _ _ st4 loop)
end
end PV
set_option Elab.async false
set_option linter.all false
set_option maxRecDepth 100000
set_option maxHeartbeats 4000000
/-! Asks: made, answered. -/
namespace PV
open PySem PySem.Spec PyProof.Rows L2
/-- all but dicts is kept -/
def NK (H H' : Hp) : Prop := ∀ a o, H a = some o → (∀ kvs, o ≠ .dK kvs) → H' a = some o
theorem NK.refl (H : Hp) : NK H H := fun _ _ h _ => h
theorem NK.trans {H H1 H2 : Hp} (a : NK H H1) (b : NK H1 H2) : NK H H2 := fun x o h n => b x o (a x o h n) n
theorem NK.of {H H' : Hp} (s : Same H H') : NK H H' := fun a o h _ => s a o h
theorem NK.tk {H H' : Hp} (s : NK H H') : TK H H' := fun a xs h => s a _ h (fun _ z => nomatch z)
theorem VAt.nk {K : Frag} {H H' : Hp} {v d e : Addr} {st : VS} (h : VAt K H v d e st) (f : Fr d e H H') : NK H H' := fun _ _ q n => h.keep f q n
/-- tMethP, its context's parts told -/
def tMethPX (P : Program) (w : World) (K : Frag) (mg : Str → Option Value) (base : Heap) (CX : CXT) (k : Nat) (m : Str) (E : XK) (ta : TE) (t : TA) : TE := fun σ H Q => ta σ H fun x H1 => ∃ (a C dx : Addr) (fs : List (Str × V)) (ps : List Str) (sp : Sp), x = .ref a ∧ H1 a = some (.ins C dx fs) ∧ fs.lookup m = none ∧ Cls K C ∧
  CalM P w K mg base CX k C m ps sp ∧ t σ H1 fun vs H2 => sp (x :: vs) H2 Q E
/-- what a simple ask answers: a thing, or a list that is new -/
def RA (H0 H : Hp) (u : V) (x : PyData) : Prop := (∃ t, ThA H u t ∧ x = t.data) ∨ ∃ p ps ts, u = .ref p ∧ H0 p = none ∧ H p = some (.lst ps) ∧ ThL H ps ts ∧ x = .list (Th.dataL ts)
theorem RA.dp {K : Frag} {H0 H : Hp} {u : V} {x : PyData} (h : RA H0 H u x) : Dp K H u x := by
  rcases h with ⟨t, h, rfl⟩ | ⟨p, ps, ts, rfl, _, h1, h2, rfl⟩
  · exact h.dp
  · exact .lst (SqL.of h1) h2.dp
/-- an element of a list at D -/
def RE (D : Addr) (H : Hp) (u : V) (x : PyData) : Prop := (∃ t, ThA H u t ∧ x = t.data) ∨ ∃ p ps ts, u = .ref p ∧ p ≠ D ∧ H p = some (.lst ps) ∧ ThL H ps ts ∧ x = .list (Th.dataL ts)
theorem RE.nk {D : Addr} {H H' : Hp} {u : V} {x : PyData} (h : RE D H u x) (k : NK H H') : RE D H' u x := by
  rcases h with ⟨t, h, e⟩ | ⟨p, ps, ts, e, n, h1, h2, e2⟩
  · exact .inl ⟨t, h.mono k.tk, e⟩
  · exact .inr ⟨p, ps, ts, e, n, k _ _ h1 (fun _ z => nomatch z), h2.mono k.tk, e2⟩
theorem RE.upd {D : Addr} {H : Hp} {u : V} {x : PyData} {xs ys : List V} (h : RE D H u x) (hD : H D = some (.lst xs)) : RE D (L2.upd H D (.lst ys)) u x := by
  rcases h with ⟨t, h, e⟩ | ⟨p, ps, ts, e, n, h1, h2, e2⟩
  · exact .inl ⟨t, h.mono (tk_lst hD), e⟩
  · exact .inr ⟨p, ps, ts, e, n, by rw [upd_ne n]; exact h1, h2.mono (tk_lst hD), e2⟩
theorem RE.dp {K : Frag} {D : Addr} {H : Hp} {u : V} {x : PyData} (h : RE D H u x) : Dp K H u x := by
  rcases h with ⟨t, h, rfl⟩ | ⟨p, ps, ts, rfl, _, h1, h2, rfl⟩
  · exact h.dp
  · exact .lst (SqL.of h1) h2.dp
theorem re_all {K : Frag} {D : Addr} {H : Hp} : ∀ {us : List V} {xs : List PyData}, Paired (RE D H) us xs → DpAll K H us xs
  | _, _, .nil => .nil
  | _, _, .cons h r => .cons h.dp (re_all r)
theorem pr_th {H : Hp} {u : V} {p : Ky × Th} (h : PrAt H u p) : ThA H u (.tup [p.1.th, p.2]) := by
  obtain ⟨b, y, rfl, h1, h2⟩ := h
  exact .tup h1 (.cons (ta_kyV _) (.cons h2 .nil))
theorem pr_data (p : Ky × Th) : (Th.tup [p.1.th, p.2]).data = pairD p := by
  rw [Th.data, Th.dataL, Th.dataL, Th.dataL]; rfl
theorem prs_th {H : Hp} : ∀ {us : List V} {l : List (Ky × Th)}, Paired (PrAt H) us l → ThL H us (l.map fun p => .tup [p.1.th, p.2])
  | _, _, .nil => .nil
  | _, _, .cons h r => .cons (pr_th h) (prs_th r)
theorem prs_data : ∀ l : List (Ky × Th), Th.dataL (l.map fun p => .tup [p.1.th, p.2]) = l.map pairD
  | [] => by rw [List.map_nil, Th.dataL]; rfl
  | p :: r => by rw [List.map_cons, List.map_cons, Th.dataL, prs_data r, pr_data]
def fFind (_ : Hp) (fs : List (Str × V)) (a : Aq) : Prop := ∃ k, fs = [(("key" : Str), kyV k)] ∧ a = .find k
def fStretch (_ : Hp) (fs : List (Str × V)) (a : Aq) : Prop := ∃ lo hi, fs = [(("low" : Str), kyO lo), ("high", kyO hi)] ∧ a = .stretch lo hi
def fCount (_ : Hp) (fs : List (Str × V)) (a : Aq) : Prop := ∃ lo hi, fs = [(("low" : Str), kyO lo), ("high", kyO hi)] ∧ a = .count lo hi
def fNth (_ : Hp) (fs : List (Str × V)) (a : Aq) : Prop := ∃ n : Int, fs = [(("number" : Str), .int n)] ∧ a = .nth n
def fPut (H : Hp) (fs : List (Str × V)) (a : Aq) : Prop := ∃ k y t, fs = [(("key" : Str), kyV k), ("worth", y)] ∧ ThA H y t ∧ k.okK = true ∧ a = .put k t
def fCut (_ : Hp) (fs : List (Str × V)) (a : Aq) : Prop := ∃ k, fs = [(("key" : Str), kyV k)] ∧ a = .cut k
/-- an ask stands there -/
def AqAt (K : Frag) (H : Hp) (u : V) (q : Aq) : Prop := ∃ a C dx fs, u = .ref a ∧ H a = some (.ins C dx fs) ∧
  ((C = He.ga K "Find" ∧ fFind H fs q) ∨ (C = He.ga K "Stretch" ∧ fStretch H fs q) ∨ (C = He.ga K "Count" ∧ fCount H fs q) ∨ (C = He.ga K "Nth" ∧ fNth H fs q) ∨ (C = He.ga K "Put" ∧ fPut H fs q) ∨ (C = He.ga K "Cut" ∧ fCut H fs q))
theorem AqAt.nk {K : Frag} {H H' : Hp} {u : V} {q : Aq} (h : AqAt K H u q) (k : NK H H') : AqAt K H' u q := by
  obtain ⟨a, C, dx, fs, e, h1, h2⟩ := h
  refine ⟨a, C, dx, fs, e, k _ _ h1 (fun _ z => nomatch z), ?_⟩
  rcases h2 with h2 | h2 | h2 | h2 | ⟨h3, kk, y, t, e1, e2, e3, e4⟩ | h2
  · exact .inl h2
  · exact .inr (.inl h2)
  · exact .inr (.inr (.inl h2))
  · exact .inr (.inr (.inr (.inl h2)))
  · exact .inr (.inr (.inr (.inr (.inl ⟨h3, kk, y, t, e1, e2.mono k.tk, e3, e4⟩))))
  · exact .inr (.inr (.inr (.inr (.inr h2))))
def AkAt (K : Frag) (H : Hp) (u : V) : Ak → Prop
  | .one q => AqAt K H u q
  | .also_ l => ∃ a dx al us, u = .ref a ∧ H a = some (.ins (He.ga K "Also") dx [("asks", .ref al)]) ∧ H al = some (.lst us) ∧ Paired (AqAt K H) us l ∧ l.length ≤ 100
theorem AkAt.nk {K : Frag} {H H' : Hp} {u : V} {q : Ak} (h : AkAt K H u q) (k : NK H H') : AkAt K H' u q := by
  cases q with
  | one q => exact AqAt.nk (show AqAt K H u q from h) k
  | also_ l =>
    obtain ⟨a, dx, al, us, e, h1, h2, h3, h4⟩ := h
    exact ⟨a, dx, al, us, e, k _ _ h1 (fun _ z => nomatch z), k _ _ h2 (fun _ z => nomatch z), paired_mono (fun _ _ z => z.nk k) h3, h4⟩
def spAns (K : Frag) (C : Addr) (F : Hp → List (Str × V) → Aq → Prop) : Sp := fun vs H Q E => ∃ v d e st root a dx fs q, vs = [.ref a, .ref v, .int root] ∧ H a = some (.ins C dx fs) ∧ F H fs q ∧ VAt K H v d e st ∧ SpP K (q.prog root) (RA H) v d e st H Q E
def spAlso (K : Frag) : Sp := fun vs H Q E => ∃ v d e st root a l, vs = [.ref a, .ref v, .int root] ∧ AkAt K H (.ref a) (.also_ l) ∧ VAt K H v d e st ∧ SpP K ((Ak.also_ l).prog root) (Dp K) v d e st H Q E
section
variable {P : Program} {w : World} {K : Frag} {mg : Str → Option Value} {base : Heap}
theorem sc_afind : FnScope ["self", "vault", "root"] ["self", "vault", "root"] (defScope s_Find_answer) := ⟨rfl, rfl, rfl, by decide +kernel, rfl, by decide +kernel, by decide +kernel⟩
theorem f_aFind (T : Txt K mg) (f : Addr) (fd : FuncData) (F : Fun K "answer" "Find.answer" s_Find_answer f fd) : FnOk P w K mg base (L2.CX P w) 13 f fd ["self", "vault", "root"] (spAns K (He.ga K "Find") fFind) := by
  have G := c_found (P := P) (w := w) (base := base) T
  refine F.okX sc_afind (fun vs H Q E h => ?_) (fun cdv A outer s H vs Q E hr h => ?_)
  · obtain ⟨_, _, _, _, _, _, _, _, _, rfl, _⟩ := h
    rfl
  · obtain ⟨v, d, e, st, root, a, dx, fs, q, rfl, ha, ⟨k, rfl, rfl⟩, hV, h⟩ := h
    refine ⟨_, (pss_one (ps_ret (pe_cal G (hr.mono (by decide)) (passes_call (takes_of rfl rfl rfl rfl) (fun _ _ _ _ h => h)) (pa_cons (pv 1) (pa_cons (pv 2) (pa_cons (pe_fld (pv 0) rfl) pa_nil)))))), ?_⟩
    exact ⟨_, rfl, _, rfl, _, rfl, a, _, dx, _, _, rfl, ha, T.c_Find, T.n_Find_key, rfl, v, d, e, st, root, k, rfl, hV, h.next (Fr.refl _ _ _) fun t st1 u H1 fr V1 r q => q.done fr V1 (.inl ⟨t, r, rfl⟩)⟩
theorem sc_astretch : FnScope ["self", "vault", "root"] ["self", "vault", "root"] (defScope s_Stretch_answer) := ⟨rfl, rfl, rfl, by decide +kernel, rfl, by decide +kernel, by decide +kernel⟩
theorem f_aStretch (T : Txt K mg) (f : Addr) (fd : FuncData) (F : Fun K "answer" "Stretch.answer" s_Stretch_answer f fd) : FnOk P w K mg base (L2.CX P w) 13 f fd ["self", "vault", "root"] (spAns K (He.ga K "Stretch") fStretch) := by
  have G := c_stretch (P := P) (w := w) (base := base) T
  refine F.okX sc_astretch (fun vs H Q E h => ?_) (fun cdv A outer s H vs Q E hr h => ?_)
  · obtain ⟨_, _, _, _, _, _, _, _, _, rfl, _⟩ := h
    rfl
  · obtain ⟨v, d, e, st, root, a, dx, fs, q, rfl, ha, ⟨lo, hi, rfl, rfl⟩, hV, h⟩ := h
    refine ⟨_, (pss_one (ps_ret (pe_cal G (hr.mono (by decide)) (passes_call (takes_of rfl rfl rfl rfl) (fun _ _ _ _ h => h)) (pa_cons (pv 1) (pa_cons (pv 2) (pa_cons (pe_fld (pv 0) rfl) (pa_cons (pe_fld (pv 0) rfl) pa_nil))))))), ?_⟩
    exact ⟨_, rfl, _, rfl, _, rfl, a, _, dx, _, _, rfl, ha, T.c_Stretch, T.n_Stretch_low, rfl, _, rfl, a, _, dx, _, _, rfl, ha, T.c_Stretch, T.n_Stretch_high, rfl, v, d, e, st, root, lo, hi, rfl, hV, h.next (Fr.refl _ _ _) fun t st1 u H1 fr V1 r q => q.done fr V1 (by
      obtain ⟨p, ps, rfl, h0, h1, h2⟩ := r
      exact .inr ⟨p, ps, _, rfl, h0, h1, prs_th h2, by rw [prs_data]⟩)⟩
theorem sc_acount : FnScope ["self", "vault", "root"] ["self", "vault", "root"] (defScope s_Count_answer) := ⟨rfl, rfl, rfl, by decide +kernel, rfl, by decide +kernel, by decide +kernel⟩
theorem f_aCount (T : Txt K mg) (f : Addr) (fd : FuncData) (F : Fun K "answer" "Count.answer" s_Count_answer f fd) : FnOk P w K mg base (L2.CX P w) 13 f fd ["self", "vault", "root"] (spAns K (He.ga K "Count") fCount) := by
  have G := c_counted (P := P) (w := w) (base := base) T
  refine F.okX sc_acount (fun vs H Q E h => ?_) (fun cdv A outer s H vs Q E hr h => ?_)
  · obtain ⟨_, _, _, _, _, _, _, _, _, rfl, _⟩ := h
    rfl
  · obtain ⟨v, d, e, st, root, a, dx, fs, q, rfl, ha, ⟨lo, hi, rfl, rfl⟩, hV, h⟩ := h
    refine ⟨_, (pss_one (ps_ret (pe_cal G (hr.mono (by decide)) (passes_call (takes_of rfl rfl rfl rfl) (fun _ _ _ _ h => h)) (pa_cons (pv 1) (pa_cons (pv 2) (pa_cons (pe_fld (pv 0) rfl) (pa_cons (pe_fld (pv 0) rfl) pa_nil))))))), ?_⟩
    exact ⟨_, rfl, _, rfl, _, rfl, a, _, dx, _, _, rfl, ha, T.c_Count, T.n_Count_low, rfl, _, rfl, a, _, dx, _, _, rfl, ha, T.c_Count, T.n_Count_high, rfl, v, d, e, st, root, lo, hi, rfl, hV, h.next (Fr.refl _ _ _) fun t st1 u H1 fr V1 r q => q.done fr V1 (by
      cases r
      exact .inl ⟨.int t, .int t, by rw [Th.data]⟩)⟩
theorem sc_anth : FnScope ["self", "vault", "root"] ["self", "vault", "root"] (defScope s_Nth_answer) := ⟨rfl, rfl, rfl, by decide +kernel, rfl, by decide +kernel, by decide +kernel⟩
theorem f_aNth (T : Txt K mg) (f : Addr) (fd : FuncData) (F : Fun K "answer" "Nth.answer" s_Nth_answer f fd) : FnOk P w K mg base (L2.CX P w) 13 f fd ["self", "vault", "root"] (spAns K (He.ga K "Nth") fNth) := by
  have G := c_nth (P := P) (w := w) (base := base) T
  refine F.okX sc_anth (fun vs H Q E h => ?_) (fun cdv A outer s H vs Q E hr h => ?_)
  · obtain ⟨_, _, _, _, _, _, _, _, _, rfl, _⟩ := h
    rfl
  · obtain ⟨v, d, e, st, root, a, dx, fs, q, rfl, ha, ⟨n, rfl, rfl⟩, hV, h⟩ := h
    refine ⟨_, (pss_one (ps_ret (pe_cal G (hr.mono (by decide)) (passes_call (takes_of rfl rfl rfl rfl) (fun _ _ _ _ h => h)) (pa_cons (pv 1) (pa_cons (pv 2) (pa_cons (pe_fld (pv 0) rfl) pa_nil)))))), ?_⟩
    exact ⟨_, rfl, _, rfl, _, rfl, a, _, dx, _, _, rfl, ha, T.c_Nth, T.n_Nth_number, rfl, v, d, e, st, root, n, rfl, hV, h.next (Fr.refl _ _ _) fun t st1 u H1 fr V1 r q => q.done fr V1 (by
      cases t with
      | none =>
        cases (show u = V.non from r)
        exact .inl ⟨.non, .non, by rw [Th.data]; rfl⟩
      | some p => exact .inl ⟨_, pr_th r, by rw [pr_data]; rfl⟩)⟩
theorem sc_aput : FnScope ["self", "vault", "root"] ["self", "vault", "root"] (defScope s_Put_answer) := ⟨rfl, rfl, rfl, by decide +kernel, rfl, by decide +kernel, by decide +kernel⟩
theorem f_aPut (T : Txt K mg) (f : Addr) (fd : FuncData) (F : Fun K "answer" "Put.answer" s_Put_answer f fd) : FnOk P w K mg base (L2.CX P w) 13 f fd ["self", "vault", "root"] (spAns K (He.ga K "Put") fPut) := by
  have G := c_put (P := P) (w := w) (base := base) T
  refine F.okX sc_aput (fun vs H Q E h => ?_) (fun cdv A outer s H vs Q E hr h => ?_)
  · obtain ⟨_, _, _, _, _, _, _, _, _, rfl, _⟩ := h
    rfl
  · obtain ⟨v, d, e, st, root, a, dx, fs, q, rfl, ha, ⟨k, y, t, rfl, hy, hk, rfl⟩, hV, h⟩ := h
    refine ⟨_, (pss_one (ps_ret (pe_cal G (hr.mono (by decide)) (passes_call (takes_of rfl rfl rfl rfl) (fun _ _ _ _ h => h)) (pa_cons (pv 1) (pa_cons (pv 2) (pa_cons (pe_fld (pv 0) rfl) (pa_cons (pe_fld (pv 0) rfl) pa_nil))))))), ?_⟩
    exact ⟨_, rfl, _, rfl, _, rfl, a, _, dx, _, _, rfl, ha, T.c_Put, T.n_Put_key, rfl, _, rfl, a, _, dx, _, _, rfl, ha, T.c_Put, T.n_Put_worth, rfl, v, d, e, st, root, k, y, t, rfl, hV, hk, hy, h.next (Fr.refl _ _ _) fun n st1 u H1 fr V1 r q => q.done fr V1 (by
      cases r
      exact .inl ⟨.int n, .int n, by rw [Th.data]⟩)⟩
theorem sc_acut : FnScope ["self", "vault", "root"] ["self", "vault", "root"] (defScope s_Cut_answer) := ⟨rfl, rfl, rfl, by decide +kernel, rfl, by decide +kernel, by decide +kernel⟩
theorem f_aCut (T : Txt K mg) (f : Addr) (fd : FuncData) (F : Fun K "answer" "Cut.answer" s_Cut_answer f fd) : FnOk P w K mg base (L2.CX P w) 13 f fd ["self", "vault", "root"] (spAns K (He.ga K "Cut") fCut) := by
  have G := c_cut (P := P) (w := w) (base := base) T
  refine F.okX sc_acut (fun vs H Q E h => ?_) (fun cdv A outer s H vs Q E hr h => ?_)
  · obtain ⟨_, _, _, _, _, _, _, _, _, rfl, _⟩ := h
    rfl
  · obtain ⟨v, d, e, st, root, a, dx, fs, q, rfl, ha, ⟨k, rfl, rfl⟩, hV, h⟩ := h
    refine ⟨_, (pss_one (ps_ret (pe_cal G (hr.mono (by decide)) (passes_call (takes_of rfl rfl rfl rfl) (fun _ _ _ _ h => h)) (pa_cons (pv 1) (pa_cons (pv 2) (pa_cons (pe_fld (pv 0) rfl) pa_nil)))))), ?_⟩
    exact ⟨_, rfl, _, rfl, _, rfl, a, _, dx, _, _, rfl, ha, T.c_Cut, T.n_Cut_key, rfl, v, d, e, st, root, k, rfl, hV, h.next (Fr.refl _ _ _) fun n st1 u H1 fr V1 r q => q.done fr V1 (by
      cases r
      exact .inl ⟨.int n, .int n, by rw [Th.data]⟩)⟩
/-- a.answer(v, root), a simple -/
theorem m_aq (T : Txt K mg) {H : Hp} {u : V} {q : Aq} (h : AqAt K H u q) : ∃ a C dx fs sp, u = .ref a ∧ H a = some (.ins C dx fs) ∧ fs.lookup ("answer" : Str) = none ∧ Cls K C ∧ CalM P w K mg base (L2.CX P w) 13 C "answer" ["self", "vault", "root"] sp ∧
    ∀ H1 v d e st root Q E, NK H H1 → VAt K H1 v d e st → SpP K (q.prog root) (RA H1) v d e st H1 Q E → sp [.ref a, .ref v, .int root] H1 Q E := by
  obtain ⟨a, C, dx, fs, rfl, ha, h⟩ := h
  rcases h with ⟨rfl, h⟩ | ⟨rfl, h⟩ | ⟨rfl, h⟩ | ⟨rfl, h⟩ | ⟨rfl, h⟩ | ⟨rfl, h⟩
  · have hf := h
    obtain ⟨k, rfl, rfl⟩ := h
    exact ⟨a, _, dx, _, _, rfl, ha, rfl, T.c_Find, T.m_Find_answer.cal (f_aFind T) (fun _ _ _ _ _ _ us hl => match us, hl with | [_, _, _], _ => rfl), fun H1 v d e st root Q E nk hV q => ⟨v, d, e, st, root, a, dx, _, _, rfl, nk _ _ ha (fun _ z => nomatch z), hf, hV, q⟩⟩
  · have hf := h
    obtain ⟨lo, hi, rfl, rfl⟩ := h
    exact ⟨a, _, dx, _, _, rfl, ha, rfl, T.c_Stretch, T.m_Stretch_answer.cal (f_aStretch T) (fun _ _ _ _ _ _ us hl => match us, hl with | [_, _, _], _ => rfl), fun H1 v d e st root Q E nk hV q => ⟨v, d, e, st, root, a, dx, _, _, rfl, nk _ _ ha (fun _ z => nomatch z), hf, hV, q⟩⟩
  · have hf := h
    obtain ⟨lo, hi, rfl, rfl⟩ := h
    exact ⟨a, _, dx, _, _, rfl, ha, rfl, T.c_Count, T.m_Count_answer.cal (f_aCount T) (fun _ _ _ _ _ _ us hl => match us, hl with | [_, _, _], _ => rfl), fun H1 v d e st root Q E nk hV q => ⟨v, d, e, st, root, a, dx, _, _, rfl, nk _ _ ha (fun _ z => nomatch z), hf, hV, q⟩⟩
  · have hf := h
    obtain ⟨n, rfl, rfl⟩ := h
    exact ⟨a, _, dx, _, _, rfl, ha, rfl, T.c_Nth, T.m_Nth_answer.cal (f_aNth T) (fun _ _ _ _ _ _ us hl => match us, hl with | [_, _, _], _ => rfl), fun H1 v d e st root Q E nk hV q => ⟨v, d, e, st, root, a, dx, _, _, rfl, nk _ _ ha (fun _ z => nomatch z), hf, hV, q⟩⟩
  · have hf := h
    obtain ⟨k, y, t, rfl, hy, hk, rfl⟩ := h
    exact ⟨a, _, dx, _, _, rfl, ha, rfl, T.c_Put, T.m_Put_answer.cal (f_aPut T) (fun _ _ _ _ _ _ us hl => match us, hl with | [_, _, _], _ => rfl), fun H1 v d e st root Q E nk hV q => ⟨v, d, e, st, root, a, dx, _, _, rfl, nk _ _ ha (fun _ z => nomatch z), ⟨k, y, t, rfl, hy.mono nk.tk, hk, rfl⟩, hV, q⟩⟩
  · have hf := h
    obtain ⟨k, rfl, rfl⟩ := h
    exact ⟨a, _, dx, _, _, rfl, ha, rfl, T.c_Cut, T.m_Cut_answer.cal (f_aCut T) (fun _ _ _ _ _ _ us hl => match us, hl with | [_, _, _], _ => rfl), fun H1 v d e st root Q E nk hV q => ⟨v, d, e, st, root, a, dx, _, _, rfl, nk _ _ ha (fun _ z => nomatch z), hf, hV, q⟩⟩
theorem sc_aalso : FnScope ["self", "vault", "root", "one"] ["self", "vault", "root"] (defScope s_Also_answer) := ⟨rfl, rfl, rfl, by decide +kernel, rfl, by decide +kernel, by decide +kernel⟩
theorem f_aAlso (T : Txt K mg) (f : Addr) (fd : FuncData) (F : Fun K "answer" "Also.answer" s_Also_answer f fd) : FnOk P w K mg base (L2.CX P w) 14 f fd ["self", "vault", "root"] (spAlso K) := by
  refine F.okX sc_aalso (fun vs H Q E h => ?_) (fun cdv A outer s H vs Q E hr h => ?_)
  · obtain ⟨_, _, _, _, _, _, _, rfl, _⟩ := h
    rfl
  · obtain ⟨v, d, e, st, root, a, l, rfl, ⟨_, dx, al, us, ee, ha, hal, hus, hl100⟩, hV, h⟩ := h
    cases ee
    refine ⟨_, pss_one (ps_ret (pe_lcX (te := tMethPX P w K mg base (L2.CX P w) 13 "answer" E (tVar 3) (tCons (tVar 1) (tCons (tVar 2) tNil))) (own := [("one", 3)]) (g := gName 3) (E := E) rfl rfl (takes_of rfl rfl rfl rfl) rfl sc_aalso.nd (pi_list (pe_fld (pv 0) rfl)) (blkOk_by (own := [("one", 3)]) (N := ["self", "vault", "root", "one"]) (sc := defScope s_Also_answer) (by decide +kernel))
      (fun _ _ _ _ _ => pg_name (i := 3) sc_aalso.nd rfl (.inl rfl)) ?he)), ?_⟩
    case he =>
      intro s1 H1 C1 cl1 fp1 xe hp
      exact pe_methP (pv 3) hr hp (pa_cons (pv 1) (pa_cons (pv 2) pa_nil))
    refine ⟨_, rfl, a, _, dx, _, _, rfl, ha, T.c_Also, T.n_Also_asks, rfl, al, rfl, ⟨us, SqL.of hal⟩, fun D hD => ?_⟩
    have sm0 : Same H (L2.upd H D (.lst [])) := same_upd (Same.refl _) hD
    have hlen := Paired.length hus
    refine lc_it (walk_list (xs := us)) (fun i Hc => ∃ st acc ds, VAt K Hc v d e st ∧ Fr d e H Hc ∧ Hc D = some (.lst acc) ∧ acc.length = i ∧ Paired (RE D Hc) acc ds ∧ SpP K ((alsoP root (l.drop i) ds).bind fun ds => Prog.ret (PyData.list ds)) (Dp K) v d e st H Q E)
      ⟨st, [], [], hV.same sm0, Fr.of sm0, upd_same, rfl, .nil, h⟩ (fun i Hc _ ⟨st, acc, ds, _, fr, _⟩ => SqL.of (hV.keep fr hal (fun _ z => nomatch z))) ?_ ?_
    · rintro i x H1 H2 hi ⟨st, acc, ds, V1, fr, hDc, hlc, hp, h⟩ ⟨rfl, hx⟩
      obtain ⟨q, hq, hA⟩ := paired_at hus hx
      rw [drop_at hq] at h
      unfold alsoP at h
      rw [bind_assoc] at h
      have hA2 := hA.nk (hV.nk fr)
      obtain ⟨b, C, dx2, fs, sp, rfl, hb, hlk, cC, cm, hsp⟩ := m_aq (P := P) (w := w) (base := base) T hA2
      refine ⟨rfl, ?_⟩
      simp only [tYes, if_true]
      refine ⟨_, rfl, b, C, dx2, fs, _, sp, rfl, hb, hlk, cC, cm, _, rfl, _, rfl, hsp _ v d e st root _ _ (NK.refl _) V1 (h.next fr fun dd st2 u H3 fr2 V2 r2 q2 => ?_)⟩
      have hD3 := V1.keep fr2 hDc (fun _ z => nomatch z)
      refine ⟨acc, hD3, ?_, st2, acc ++ [u], ds ++ [dd], V2.lst hD3, (fr.trans fr2).new hD, upd_same, by rw [List.length_append, hlc]; rfl, ?_, q2⟩
      · exact Nat.lt_of_lt_of_le (show acc.length < 101 by omega) (by decide)
      · have nk := V1.nk fr2
        refine Paired.snoc (paired_mono (fun _ _ z => (z.nk nk).upd hD3) hp) (RE.upd (xs := acc) ?_ hD3)
        rcases r2 with ⟨t, h1, h2⟩ | ⟨p, ps, ts, e1, e2, e3, e4, e5⟩
        · exact .inl ⟨t, h1, h2⟩
        · exact .inr ⟨p, ps, ts, e1, (fun z => by rw [z, hDc] at e2; cases e2), e3, e4, e5⟩
    · rintro Hc ⟨st, acc, ds, V1, fr, hDc, hlc, hp, h⟩
      rw [hlen, List.drop_length] at h
      exact SpP.done (a := PyData.list ds) h fr V1 (.lst (SqL.of hDc) (re_all hp))
/-- a.answer(v, root) -/
theorem m_ak (T : Txt K mg) {H : Hp} {u : V} {q : Ak} (h : AkAt K H u q) : ∃ a C dx fs sp, u = .ref a ∧ H a = some (.ins C dx fs) ∧ fs.lookup ("answer" : Str) = none ∧ Cls K C ∧ CalM P w K mg base (L2.CX P w) 14 C "answer" ["self", "vault", "root"] sp ∧
    ∀ H1 v d e st root Q E, NK H H1 → VAt K H1 v d e st → SpP K (q.prog root) (Dp K) v d e st H1 Q E → sp [.ref a, .ref v, .int root] H1 Q E := by
  cases q with
  | one q =>
    obtain ⟨a, C, dx, fs, sp, e, ha, h1, h2, h3, h4⟩ := m_aq (P := P) (w := w) (base := base) T (show AqAt K H u q from h)
    exact ⟨a, C, dx, fs, sp, e, ha, h1, h2, h3.mono (by decide), fun H1 v d e st root Q E nk hV q => h4 H1 v d e st root Q E nk hV (SpP.mono (R' := RA H1) q (Fr.refl _ _ _) fun H' u a _ r k => k r.dp)⟩
  | also_ l =>
    obtain ⟨a, dx, al, us, rfl, h1, h2, h3, h4⟩ := id h
    exact ⟨a, _, dx, _, _, rfl, h1, rfl, T.c_Also, T.m_Also_answer.cal (f_aAlso T) (fun _ _ _ _ _ _ us hl => match us, hl with | [_, _, _], _ => rfl), fun H1 v d e st root Q E k hV q => ⟨v, d, e, st, root, a, l, rfl, h.nk k, hV, q⟩⟩
end
end PV
set_option Elab.async false
set_option linter.all false
set_option maxRecDepth 100000
set_option maxHeartbeats 4000000
/-! set(list of isI), sorted of it, sorted of a dict by isI: any number of them. -/
namespace PV
open PySem PySem.Spec PyProof.Rows L2
abbrev empS (w : World) : Obj := { cls := .type "set", dict := none, data := .set #[] 0 (.fresh 0 0 (!w.params.followText "set-order")) }
section
variable {P : Program} {w : World} {A : Around} {E : Value → Shared → Prop} {s : Shared}
set_option maxHeartbeats 8000000 in
theorem set_of_list {l : Addr} {items : Array Value} (ns : List Int) {Q : Value → Shared → Prop} (hh : A.handled = none) (hl : s.heap.IsList l items) (hit : IntsAre items.toList ns) (hb : ns.length + 1 < scanBound)
    (fin : ∀ (h2 : Heap) (tk c : Nat), SetR w h2 s.heap.objs.size (fun j => decide (j ∈ ns)) c → c ≤ ns.length → (∀ b o, s.heap.get? b = some o → h2.get? b = some o) → Q (.ref s.heap.objs.size) { s with heap := h2, toks := tk }) :
    wpAny (model P w) A (call (.type "set") [.ref l]) Q E s := by
  have nsz : items.size = ns.length := (Array.length_toList).symm.trans (IntsAre.length hit)
  obtain ⟨c0, tl, mro⟩ := F.called_set.mro
  have made := F.called_set.made
  have subs := F.called_set.sub
  refine wpAny_call (codeAny_of_tree ?_)
  show wpAny _ _ (callAny (.type "set") _) _ _ _
  refine wpAny_pure ⟨Code.quiet_builtin _ (by decide +kernel), codeAny_builtin F.entry_type_call ?_⟩
  rw [Around.under_plain (weight_type_call_type "set" [.ref l] []) rfl]
  have z1 := F.called_set.notType
  have z2 := F.called_set.canCreate
  have z3 := F.typeCall_set_1 (.ref l)
  repeat (any_goals (first | assumption | wp_step))
  have led := code_set_led1 (P := P) (w := w) (A := A.in1) (s := s) (.ref l) (E := E) (Q₁ := fun ob s1 => ob = .ref s.heap.objs.size ∧ s1 = { s with heap := s.heap.push (empS w) }) ⟨rfl, rfl⟩
  refine codeAny_mono led fun r s1 hr => ?_
  cases r with
  | error x => exact hr
  | ok fl =>
    cases fl with
    | ret ob =>
      obtain ⟨rfl, rfl⟩ := hr
      have newS : (s.heap.push (empS w)).get? s.heap.objs.size = some (empS w) := Heap.get?_push_size _ rfl
      have newT : Shared.TypeIs { s with heap := s.heap.push (empS w) } (.ref s.heap.objs.size) "set" := ⟨_, newS, rfl⟩
      have z4 := F.called_set.init.lookup
      have z5 := F.called_set.init.bind (.ref s.heap.objs.size)
      repeat (any_goals (first | assumption | wp_step))
      refine codeAny_mono (codeAny_call_builtin (R := wants (fun r s2 => r = .none ∧ ∃ h2 tk c, s2 = { s with heap := h2, toks := tk } ∧ SetR w h2 s.heap.objs.size (fun j => decide (j ∈ ns)) c ∧ c ≤ ns.length ∧ (∀ b o, s.heap.get? b = some o → h2.get? b = some o)) E)
        F.called_set.init.plain F.entry_set_init (check_set_init_1 newT ?_)) fun r2 s2 hr2 => ?_
      · obtain ⟨ol, hol, hcl, nl, hdl⟩ := hl
        obtain ⟨ocls, odict, odata, oslots⟩ := ol
        simp only at hcl hdl
        subst hcl
        subst hdl
        have there : (s.heap.push (empS w)).get? l = some { cls := .type "list", dict := odict, data := .seq items nl, slots := oslots } := Heap.get?_push_of_some _ hol
        have y1 := F.sub_list_set
        have y2 := F.sub_list_frozenset
        have y3 : (Value.type "list" == Value.type "dict") = false := by decide
        have isl : (s.heap.push (empS w)).IsList l items := ⟨_, there, rfl, nl, rfl⟩
        unfold Builtin.«set.__init__» noKeywords Builtin.Frozenset.updateFrom
        generalize hPI : pyIter = PI
        wp_walk
        subst hPI
        refine wpAny_pyIter_list isl ?_
        refine wpAny_bind (wpAny_runValue ?_)
        have lt : l < s.heap.objs.size := Heap.lt_size hol
        have free3 : A.in1.in1.in1.handled = none := by simp [hh]
        have ne1 : l ≠ (s.heap.push (empS w)).objs.size := by
          rw [Heap.size_push]
          exact Nat.ne_of_lt (Nat.lt_succ_of_lt lt)
        have ne2 : s.heap.objs.size ∉ [(s.heap.push (empS w)).objs.size, l] := by
          rw [Heap.size_push]
          intro hm
          rcases List.mem_cons.mp hm with z | hm
          · exact absurd z (Nat.ne_of_lt (Nat.lt_succ_self _))
          · rcases List.mem_cons.mp hm with z | hm
            · exact absurd z.symm (Nat.ne_of_lt lt)
            · cases hm
        have vals : ∀ (i : Nat) (v : Value), items[i]? = some v → ∃ k t, ns[i]? = some k ∧ v = .int k t := by
          intro i v hv
          have hi : i < ns.length := nsz ▸ (Array.getElem?_eq_some_iff.mp hv).1
          have hv2 : items.toList[i]? = some v := (Array.getElem?_toList ..).trans hv
          obtain ⟨t, e⟩ := PyProof.Rows.IntsAre.int_at hit i v hv2
          have e2 : ns[i]? = some (ns.getD i 0) := by rw [List.getD_eq_getElem?_getD, List.getElem?_eq_getElem hi]; rfl
          exact ⟨ns.getD i 0, t, e2, e⟩
        refine set_update_ints ((Walks.list free3 _ l ne1 items).toS) s.heap.objs.size ne2 ns nsz hb vals (items.size - 0) 0 _ (by omega) (Nat.zero_le _) ⟨⟨_, Heap.get?_push_size _ rfl, rfl, rfl⟩, (isl.push _)⟩ ?first ?last
        case first =>
          exact ⟨0, Nat.le_refl 0, setR_new_at (Heap.get?_push_of_some _ newS)⟩
        case last =>
          intro s3 c3 mv hc3 hS3
          obtain ⟨h3, g3, d3, tk3, os3⟩ := s3
          obtain rfl : g3 = s.gens := mv.gens
          obtain rfl : d3 = s.drawn := mv.drawn
          obtain rfl : os3 = s.os := mv.os
          show wpAny _ _ _ _ _ _
          refine wpAny_pure ?_
          show wpAny _ _ (ret Value.none) _ _ _
          refine wpAny_pure ⟨rfl, h3, tk3, c3, rfl, hS3, nsz ▸ hc3, fun b o e => ?_⟩
          have b0 : b < s.heap.objs.size := Heap.lt_size e
          refine mv.heap b o (fun hm => ?_) (Heap.get?_push_of_some _ (Heap.get?_push_of_some _ e))
          rcases List.mem_cons.mp hm with z | hm
          · exact absurd z (Nat.ne_of_lt b0)
          · rcases List.mem_cons.mp hm with z | hm
            · rw [Heap.size_push] at z
              exact absurd z (Nat.ne_of_lt (Nat.lt_succ_of_lt b0))
            · cases hm
      · cases r2 with
        | error x => exact hr2
        | ok f2 =>
          cases f2 with
          | ret rr =>
            obtain ⟨rfl, h3, tk, c3, rfl, hS3, hc3, kk⟩ := hr2
            repeat (any_goals (first | assumption | wp_step))
            exact fin _ _ _ hS3 hc3 kk
          | _ => exact hr2.elim
    | _ => exact hr.elim
/-- sorted of a set of isI, any number -/
theorem sorted_setA {a : Addr} {S : Int → Bool} {n : Nat} {Q : Value → Shared → Prop} (R : SetR w s.heap a S n) (hh : A.handled = none) (hn : n ≤ sizeLine)
    (fin : ∀ s2 p (out : List Value) (c : Nat) (ns : List Int), (∀ b o, s.heap.get? b = some o → s2.heap.get? b = some o) → s2.gens = s.gens → s2.os = s.os → s.heap.objs.size ≤ p →
      s2.heap.get? p = some (seqObj "list" out.toArray c) → IntsAre out ns → ns.Pairwise (· < ·) → (∀ k, k ∈ ns ↔ S k = true) → ns.length = n → Q (.ref p) s2) :
    wpAny (model P w) A (call (.builtin "sorted") [.ref a]) Q E s := by
  obtain ⟨o, es, ep, t, ho, hex, hd, g, nd, hm, hb, hf, hsz, hris, hled⟩ := R
  refine Calls.call_function_entry kind_sorted plain_sorted entry_sorted (args_sorted1 _) ?_
  unfold Builtin.«sorted»
  refine wpAny_bind (m := checkCount "sorted" 1 1 _) (wpAny_pure ?_)
  refine wpAny_bind (collect_set (A := A.in1) hh ⟨o, ho, hex.1, hd⟩ hf hb hris hled fun sa vs kp hz ga oa pm => ?_)
  have lvs : vs.length = n := by
    rw [pm.length_eq, List.length_map, Array.length_toList]
    exact hsz
  have isI : IntsAre vs (vs.map Builtin.Re.reRawOf) := by
    refine ints_of vs fun v hv => ?_
    obtain ⟨e, he, q⟩ := List.mem_map.mp (pm.mem_iff.mp hv)
    obtain ⟨k, tk, hk, _⟩ := g e he
    exact ⟨k, tk, q.symm.trans hk⟩
  have perm : (vs.map Builtin.Re.reRawOf).Perm (es.toList.map keyOf) := by
    have q := pm.map Builtin.Re.reRawOf
    rw [List.map_map] at q
    exact q
  refine wpAny_bind (wpAny_newList ?_ (by rw [lvs]; exact hn))
  have hoL : (sa.heap.push (seqObj "list" vs.toArray 0)).get? sa.heap.objs.size = some (seqObj "list" vs.toArray 0) := Heap.get?_push_size _ rfl
  refine wpAny_bind (wpAny_holding (wpAny_call_entry slot_list_sort ⟨_, hoL, rfl⟩ entry_list_sort
    (SrtO.list_sort_ord (s := { sa with heap := sa.heap.push (seqObj "list" vs.toArray 0) }) SrtO.swo_int hoL (by rw [lvs]; exact hn) (fun h2 => SrtO.ints_sortable isI h2) fun out h1 h2 => ⟨.none, rfl, ?_⟩) (args_list_sort _)))
  obtain ⟨k1, k2, k3⟩ := SrtO.ints_out isI h1 h2
  obtain ⟨c, hc⟩ := sortedHeap_at (vs := vs) (out := out.toArray) hoL
  have pn := k2.trans perm
  refine wpAny_pure ⟨_, rfl, fin _ sa.heap.objs.size out c _ (fun b u e => ?_) ga oa hz hc k1 (lt_of_le_nodup _ k3 (pn.nodup_iff.mpr nd)) (fun k => by rw [pn.mem_iff, ← hm k]) ?_⟩
  · have q := kp b u e
    have q2 := Heap.lt_size q
    show (sortedHeap (sa.heap.push (seqObj "list" vs.toArray 0)) sa.heap.objs.size vs out.toArray).get? b = some u
    rw [sortedHeap_old (Nat.ne_of_lt q2) (by rw [size_push']; exact Nat.lt_succ_of_lt q2)]
    exact Heap.get?_push_of_some _ q
  · rw [pn.length_eq, List.length_map, Array.length_toList]
    exact hsz
end
section
variable {X : Cx}
/-- set(xs) of isI -/
theorem cr_setL (hc : X.calm = true) : CallR X (.type "set") (fun vs H Q => ∃ (p : Addr) (ns : List Int), vs = [.ref p] ∧ SqL X.K H p (ns.map V.int) ∧ ns.length ≤ 1000 ∧ ∀ (a : Addr) (c : Nat), c ≤ ns.length → H a = none → Q (.ref a) (upd H a (SetO X.w a (fun j => decide (j ∈ ns)) c))) := by
  intro pins s σ H vs us Q I r h
  obtain ⟨p, ns, rfl, hs, hl, q⟩ := h
  obtain ⟨its, rv, pl, _⟩ := I.list hs
  rw [Vals.ref1 r]
  have isl : s.heap.IsList p its.toArray := by
    obtain ⟨o, m, e, c, d, z⟩ := pl
    exact ⟨o, e, c, m, z⟩
  refine set_of_list ns (I.ok.hd hc) isl (ints_of_vals rv) (by unfold scanBound; omega) fun h2 tk c R hcn k => ?_
  have hn : H s.heap.objs.size = none := I.hok.fresh (Nat.le_refl _)
  exact ⟨.ref _, _, I.laid (t' := tk) k (Nat.le_refl _) (setO_new R), rfl, q _ c hcn hn⟩
/-- sorted of such a set -/
theorem cr_sortedSetA (hc : X.calm = true) : CallR X (.builtin "sorted") (fun vs H Q => ∃ (a : Addr) (S : Int → Bool) (n : Nat), vs = [.ref a] ∧ H a = some (SetO X.w a S n) ∧ n ≤ sizeLine ∧
    ∀ (ns : List Int) (p : Addr), ns.Pairwise (· < ·) → (∀ k : Int, k ∈ ns ↔ S k = true) → ns.length = n → H p = none → Q (.ref p) (upd H p (.lst (ns.map V.int)))) := by
  intro pins s σ H vs us Q I r h
  obtain ⟨a, S, n, rfl, ha, hn, q⟩ := h
  rw [Vals.ref1 r]
  refine sorted_setA (setO_get I ha) (I.ok.hd hc) hn fun s2 p out c ns k g o hp hg hi hs hm hl => ?_
  have free : H p = none := I.hok.fresh hp
  have J : Inv X pins σ (upd H p (.lst (ns.map V.int))) { s with heap := s2.heap, gens := s2.gens, drawn := s2.drawn, toks := s2.toks } := by
    refine I.call (ch := []) (Un.laid k hp free) (I.hok.laid k hp ⟨?_, out, c, vals_of_ints hi, hg⟩) (by rw [g]; exact I.bare) (fun _ z => nomatch z)
    rw [List.length_map, hl]
    exact hn
  obtain ⟨a1, a2, a3, a4, a5⟩ := s2
  obtain rfl : a5 = s.os := o
  exact ⟨.ref p, _, J, rfl, q ns p hs hm hl free⟩
/-- sorted(d), its keys isI -/
theorem cr_sortedDA (hc : X.calm = true) : CallR X (.builtin "sorted") (fun vs H Q => ∃ (a : Addr) (kvs : List (Key × V)) (ks : List Int), vs = [.ref a] ∧ Rd H a (.dK kvs) ∧ kvs.map (·.1) = ks.map Sum.inl ∧
    ∀ (ys : List Int) (p : Addr), ys.Perm ks → ys.Pairwise (· ≤ ·) → H p = none → Q (.ref p) (upd H p (.lst (ys.map V.int)))) := by
  intro pins s σ H vs us Q I r h
  obtain ⟨a, kvs, ks, rfl, hd, hks, q⟩ := h
  rw [Vals.ref1 r]
  obtain ⟨z, lo, prs, rel, dd⟩ := dk_rd I.hok hd
  obtain ⟨ep, hat⟩ := dd.dictAt
  have keys : prs.map (·.1) = ks.map Sum.inl := by rw [← rel.keys]; exact hks
  have len : prs.length = ks.length := by
    have e := congrArg List.length keys
    simpa using e
  have size : prs.length ≤ sizeLine := by rw [← rel.length]; exact z
  refine Calls.call_function_entry PyProof.Rows.kind_sorted PyProof.Rows.plain_sorted PyProof.Rows.entry_sorted (PyProof.Rows.args_sorted1 _) ?_
  unfold Builtin.«sorted»
  refine wpAny_bind (m := checkCount "sorted" 1 1 _) (wpAny_pure ?_)
  refine wpAny_bind (PySem.W.kdu_collect (A := X.A.in1) (PySem.W.kdl_dict (knd := mixKind X.prog X.w) (kvs := prs) (ep := ep) lo) (I.ok.hd hc) hat size fun hz tk acc kp hacc => ?_)
  have al : acc.toList.length = ks.length := by
    rw [Array.length_toList, hacc.1]
    exact len
  have isI : IntsAre acc.toList ks := by
    refine ints_each al fun j v e => ?_
    obtain ⟨k, x, e1, e2⟩ := hacc.2 j v (by rw [← Array.getElem?_toList]; exact e)
    have e3 : (prs.map (·.1))[j]? = some k := by
      rw [List.getElem?_map, e1]
      rfl
    rw [keys, List.getElem?_map] at e3
    cases e4 : ks[j]? with
    | none =>
      rw [e4] at e3
      cases e3
    | some y =>
      rw [e4] at e3
      obtain rfl : Sum.inl y = k := Option.some.inj e3
      rcases keyIs_shape (show keyIs (Sum.inl y) v = true from e2) with ⟨i, t, ek, ev⟩ | ⟨zz, t, ek, ev⟩
      · cases ek
        exact ⟨y, t, rfl, ev⟩
      · cases ek
  have I1 : Inv X pins σ H { s with heap := hz, toks := tk } := I.kept kp
  have al2 : acc.toList.length ≤ sizeLine := by
    rw [al, ← len]
    exact size
  refine wpAny_bind (wpAny_newList ?_ al2)
  have hoL : (hz.push (seqObj "list" acc.toList.toArray 0)).get? hz.objs.size = some (seqObj "list" acc.toList.toArray 0) := Heap.get?_push_size _ rfl
  show wpAny _ _ _ _ _ { s with heap := hz.push (seqObj "list" acc.toList.toArray 0), toks := tk }
  refine wpAny_bind (wpAny_holding (wpAny_call_entry PyProof.Rows.slot_list_sort ⟨_, hoL, rfl⟩ PyProof.Rows.entry_list_sort
    (SrtO.list_sort_ord (s := { s with heap := hz.push (seqObj "list" acc.toList.toArray 0), toks := tk }) SrtO.swo_int hoL al2 (fun h2 => SrtO.ints_sortable isI h2) fun out h1 h2 => ⟨.none, rfl, ?_⟩) (PyProof.Rows.args_list_sort _)))
  obtain ⟨k1, k2, k3⟩ := SrtO.ints_out isI h1 h2
  obtain ⟨c, hc2⟩ := PyProof.Rows.sortedHeap_at (vs := acc.toList) (out := out.toArray) hoL
  have hlen : ((out.map SrtO.iv).map V.int).length ≤ sizeLine := by
    rw [List.length_map, k2.length_eq, ← al]
    exact al2
  refine wpAny_pure ⟨_, rfl, .ref hz.objs.size, upd H hz.objs.size (.lst ((out.map SrtO.iv).map V.int)), I1.laid (t' := tk) (fun b u e => ?_) (Nat.le_refl _) ⟨hlen, out, c, vals_of_ints k1, hc2⟩, rfl, q _ _ k2 k3 (I1.hok.fresh (Nat.le_refl _))⟩
  have q2 := Heap.lt_size e
  show (PyProof.Rows.sortedHeap (hz.push (seqObj "list" acc.toList.toArray 0)) hz.objs.size acc.toList out.toArray).get? b = some u
  rw [PyProof.Rows.sortedHeap_old (Nat.ne_of_lt q2) (by rw [PyProof.Rows.size_push']; exact Nat.lt_succ_of_lt q2)]
  exact Heap.get?_push_of_some _ e
end
end PV
set_option Elab.async false
set_option linter.all false
set_option maxRecDepth 100000
set_option maxHeartbeats 4000000
/-! Vaults made; what they have, in order. -/
namespace PV
open PySem PySem.Spec PyProof.Rows L2
/-- C(..), as a name of the text -/
def CalC (P : Program) (w : World) (K : Frag) (mg : Str → Option Value) (base : Heap) (CX : CXT) (k : Nat) (x : Str) (C : Addr) (ps : List Str) (sp : Sp) : Prop :=
  ∃ f fd, Mk K C f ∧ FnOk P w K mg base CX k f fd ps sp ∧ mg x = some (.ref C) ∧ Binds K fd ps []
theorem MkT.cal {P : Program} {w : World} {K : Frag} {mg : Str → Option Value} {base : Heap} {CX : CXT} {k : Nat} {x q : Str} {C : Addr} {st : Stmt} {ps : List Str} {sp : Sp} (D : MkT K C q st) (hm : mg x = some (.ref C))
    (hF : ∀ f fd, Fun K "__init__" q st f fd → FnOk P w K mg base CX k f fd ps sp) (hb : BindT "__init__" q st ps) : CalC P w K mg base CX k x C ps sp := by
  obtain ⟨f, fd, M, F⟩ := D
  exact ⟨f, fd, M, hF f fd F, hm, F.binds hb⟩
section
variable {X : Cx} {CX : CXT} {k : Nat} {x : Str} {C : Addr} {ps : List Str} {sp : Sp} {E : XK} {p pos : Pos} {e : Expr} {es : List Expr} {t : TA}
theorem pe_mk (c : CalC X.prog X.w X.K X.mg X.base CX k x C ps sp) (hr : Room (k + 1) X.A) (hx : Passes CX X E) (ha : PA X (e :: es) t) (hg : Gl X x := by rfl) (hdb : (x == ("__debug__" : Str)) = false := by decide)
    (he : starEach (e :: es) X.env = (false, eval e X.env) :: starEach es X.env := by rfl) (hpl : (backTo pos (starEach es X.env)).any (·.1) = false := by rfl) : PE X (.Call (.Name x p) (e :: es) [] pos) (tMake C sp [] E t) := by
  obtain ⟨f, fd, M, F, hm, hb⟩ := c
  exact pe_make M F hr hg hm hb .nil hx ha hdb he hpl
theorem pe_mk0 (c : CalC X.prog X.w X.K X.mg X.base CX k x C ps sp) (hr : Room (k + 1) X.A) (hx : Passes CX X E) (hg : Gl X x := by rfl) (hdb : (x == ("__debug__" : Str)) = false := by decide) : PE X (.Call (.Name x p) [] [] pos) (tMake C sp [] E tNil) := by
  obtain ⟨f, fd, M, F, hm, hb⟩ := c
  exact pe_make0 M F hr hg hm hb .nil hx hdb
end
/-! ### in order -/
theorem lk_some_of {m : Mp} {n : Int} (h : n ∈ m.map (·.1)) : ∃ t, lk m n = some t := Option.isSome_iff_exists.mp (lk_key.mpr h)
theorem things_of {m : Mp} {ys : List Int} (hs : ∀ n t, lk m n = some t → sealOf t = n) (nd : (m.map (·.1)).Nodup) (hp : ys.Perm (m.map (·.1))) (ho : ys.Pairwise (· ≤ ·)) : IsThings m (ys.map fun n => (lk m n).getD .non) := by
  have hys : ∀ n ∈ ys, sealOf ((lk m n).getD .non) = n := by
    intro n hn
    obtain ⟨t, e⟩ := lk_some_of (hp.mem_iff.mp hn)
    rw [e]
    exact hs n t e
  have hmap : (ys.map fun n => (lk m n).getD .non).map sealOf = ys := by
    rw [List.map_map]
    conv => rhs; rw [← List.map_id ys]
    exact List.map_congr_left fun n hn => hys n hn
  have ndy : ys.Nodup := hp.nodup_iff.mpr nd
  refine ⟨?_, fun t => ?_, ?_⟩
  · rw [hmap]
    exact lt_of_le_nodup ys ho ndy
  · constructor
    · intro h
      obtain ⟨n, hn, rfl⟩ := List.mem_map.mp h
      obtain ⟨t, e⟩ := lk_some_of (hp.mem_iff.mp hn)
      have q := hys n hn
      rw [e] at q ⊢
      show lk m (sealOf t) = some t
      rw [show sealOf t = n from q]
      exact e
    · intro h
      refine List.mem_map.mpr ⟨sealOf t, hp.mem_iff.mpr (lk_key.mp (by rw [h]; rfl)), ?_⟩
      rw [h]
      rfl
  · rw [List.length_map, hp.length_eq, List.length_map]
/-- [self.f[n] for n in sorted(self.f)] -/
def spOrd (K : Frag) (f : Str) : Sp := fun vs H Q _ => ∃ v C dx fs d m, vs = [.ref v] ∧ H v = some (.ins C dx fs) ∧ Cls K C ∧ NoAttr K C f ∧ fs.lookup f = some (.ref d) ∧ DAt H d m ∧ (m.map (·.1)).Nodup ∧ (∀ n t, lk m n = some t → sealOf t = n) ∧ m.length < sizeLine ∧
  ∀ H' p us l, Same H H' → H p = none → H' p = some (.lst us) → ThL H' us l → IsThings m l → Q (.ref p) H'
theorem kd_keys {H : Hp} {kvs : List (Key × V)} {m : Mp} (h : KD H kvs m) : kvs.map (·.1) = (m.map (·.1)).map Sum.inl := by
  rw [h.map, List.map_map]
  rfl
theorem te_hu {k : Nat} {A : Around} (r : Room k A) : A.units + 1 < cLine := by have := r.units; omega
section
variable {P : Program} {w : World} {K : Frag} {mg : Str → Option Value} {base : Heap}
theorem sc_things : FnScope ["self", "number"] ["self"] (defScope s_Keeper_things) := ⟨rfl, rfl, rfl, by decide +kernel, rfl, by decide +kernel, by decide +kernel⟩
theorem f_things (T : Txt K mg) (f : Addr) (fd : FuncData) (F : Fun K "things" "Keeper.things" s_Keeper_things f fd) : FnOk P w K mg base CX0 1 f fd ["self"] (spOrd K "by_seal") := by
  refine F.ok sc_things (fun vs H Q E h => ?_) (fun cdv A outer s H vs Q E hr h => ?_)
  · obtain ⟨_, _, _, _, _, _, rfl, _⟩ := h
    rfl
  · obtain ⟨v, C, dx, fs, d, m, rfl, hv, cC, nC, hl, ⟨kvs, hd, kd⟩, nd, hs, hlen, q⟩ := h
    refine ⟨_, pss_one (ps_ret (pe_lc (te := tDGet (tFld K (tVar 0) "by_seal") (tVar 1)) (own := [("number", 1)]) (g := gName 1) (tt := tYes) rfl sc_things.nd (pi_list (pe_callB (cr_sortedDA rfl) (by rfl) T.b_sorted PyProof.Rows.boot_sorted (pa_cons (pe_fld (pv 0) rfl) pa_nil)))
      (blkOk_by (own := [("number", 1)]) (N := ["self", "number"]) (sc := defScope s_Keeper_things) (by decide +kernel)) (fun _ _ _ _ _ => pg_name (i := 1) sc_things.nd rfl (.inl rfl)) (fun _ _ _ _ _ => pts_nil)
      (fun _ _ _ _ _ => pe_dget (te_hu hr) (pe_fld (pv 0) rfl) (pv 1) (fun _ _ => rfl)))), ?_⟩
    refine ⟨_, rfl, v, C, dx, fs, _, rfl, hv, cC, nC, hl, d, kvs, m.map (·.1), rfl, .inl hd, kd_keys kd, fun ys p hp ho hpn => ?_⟩
    refine ⟨p, rfl, ⟨_, SqL.of upd_same⟩, fun D hD => ?_⟩
    have npd : ∀ {a : Addr} {o : HO}, H a = some o → a ≠ p := fun {a o} z => ne_of_none z hpn
    have nDd : ∀ {a : Addr} {o : HO}, (L2.upd H p (.lst (ys.map V.int))) a = some o → a ≠ D := fun {a o} z => ne_of_none z hD
    have hd1 : (L2.upd H p (.lst (ys.map V.int))) d = some (.dK kvs) := by rw [upd_ne (npd hd)]; exact hd
    have hv1 : (L2.upd H p (.lst (ys.map V.int))) v = some (.ins C dx fs) := by rw [upd_ne (npd hv)]; exact hv
    have hp1 : (L2.upd H p (.lst (ys.map V.int))) p = some (.lst (ys.map V.int)) := upd_same
    have tk1 : TK H (L2.upd H p (.lst (ys.map V.int))) := TK.of (same_upd (Same.refl _) hpn)
    refine lc_it (walk_list (xs := ys.map V.int)) (fun i Hc => ∃ us, Hc = L2.upd (L2.upd H p (.lst (ys.map V.int))) D (.lst us) ∧ us.length = i ∧ ThL (L2.upd H p (.lst (ys.map V.int))) us ((ys.take i).map fun n => (lk m n).getD .non))
      ⟨[], rfl, rfl, .nil⟩ (fun i Hc _ ⟨us, e, _⟩ => by rw [e]; exact SqL.of (by rw [upd_ne (nDd hp1)]; exact hp1)) ?_ ?_
    · rintro i x H1 H2 hi ⟨us, rfl, hus, ht⟩ ⟨rfl, hx⟩
      rw [List.getElem?_map] at hx
      cases e : ys[i]? with
      | none => rw [e] at hx; cases hx
      | some n =>
        rw [e] at hx
        cases hx
        refine ⟨rfl, ?_⟩
        simp only [tYes, if_true]
        have hn : n ∈ m.map (·.1) := hp.mem_iff.mp (List.mem_of_getElem? e)
        obtain ⟨t, ht2⟩ := lk_some_of hn
        rcases (kd.mono tk1).val (n := n) with ⟨_, z⟩ | ⟨y, t', z1, z2, z3⟩
        · rw [ht2] at z; cases z
        rw [ht2] at z2
        cases z2
        refine ⟨_, rfl, v, C, dx, fs, _, rfl, by rw [upd_ne (nDd hv1)]; exact hv1, cC, nC, hl, _, rfl, d, y, rfl, ?_, us, upd_same, ?_, us ++ [y], upd_upd, by rw [List.length_append, hus]; rfl, ?_⟩
        · rw [← z1]
          exact DGet.k (k := .inl n) (by rw [upd_ne (nDd hd1)]; exact hd1)
        · rw [hus]
          rw [List.length_map, hp.length_eq, List.length_map] at hi
          exact Nat.lt_trans hi hlen
        · rw [take_snoc e, List.map_append]
          refine ThL.snoc ?_ ht
          show ThA _ y ((lk m n).getD .non)
          rw [ht2]
          exact z3
    · rintro Hc ⟨us, rfl, hus, ht⟩
      rw [List.length_map, List.take_length] at ht
      have hDH : H D = none := by
        cases z : H D with
        | none => rfl
        | some o => rw [upd_ne (npd z), z] at hD; cases hD
      have sm := same_upd (o := .lst us) (same_upd (o := .lst (ys.map V.int)) (Same.refl H) hpn) hDH
      exact q _ D us _ sm hDH upd_same (ht.mono (TK.of (same_upd (Same.refl _) hD))) (things_of hs nd hp ho)
theorem sc_paper : FnScope ["self", "number"] ["self"] (defScope s_Reader_paper) := ⟨rfl, rfl, rfl, by decide +kernel, rfl, by decide +kernel, by decide +kernel⟩
theorem f_paper (T : Txt K mg) (f : Addr) (fd : FuncData) (F : Fun K "paper" "Reader.paper" s_Reader_paper f fd) : FnOk P w K mg base CX0 1 f fd ["self"] (spOrd K "noted") := by
  refine F.ok sc_paper (fun vs H Q E h => ?_) (fun cdv A outer s H vs Q E hr h => ?_)
  · obtain ⟨_, _, _, _, _, _, rfl, _⟩ := h
    rfl
  · obtain ⟨v, C, dx, fs, d, m, rfl, hv, cC, nC, hl, ⟨kvs, hd, kd⟩, nd, hs, hlen, q⟩ := h
    refine ⟨_, pss_one (ps_ret (pe_lc (te := tDGet (tFld K (tVar 0) "noted") (tVar 1)) (own := [("number", 1)]) (g := gName 1) (tt := tYes) rfl sc_paper.nd (pi_list (pe_callB (cr_sortedDA rfl) (by rfl) T.b_sorted PyProof.Rows.boot_sorted (pa_cons (pe_fld (pv 0) rfl) pa_nil)))
      (blkOk_by (own := [("number", 1)]) (N := ["self", "number"]) (sc := defScope s_Reader_paper) (by decide +kernel)) (fun _ _ _ _ _ => pg_name (i := 1) sc_paper.nd rfl (.inl rfl)) (fun _ _ _ _ _ => pts_nil)
      (fun _ _ _ _ _ => pe_dget (te_hu hr) (pe_fld (pv 0) rfl) (pv 1) (fun _ _ => rfl)))), ?_⟩
    refine ⟨_, rfl, v, C, dx, fs, _, rfl, hv, cC, nC, hl, d, kvs, m.map (·.1), rfl, .inl hd, kd_keys kd, fun ys p hp ho hpn => ?_⟩
    refine ⟨p, rfl, ⟨_, SqL.of upd_same⟩, fun D hD => ?_⟩
    have npd : ∀ {a : Addr} {o : HO}, H a = some o → a ≠ p := fun {a o} z => ne_of_none z hpn
    have nDd : ∀ {a : Addr} {o : HO}, (L2.upd H p (.lst (ys.map V.int))) a = some o → a ≠ D := fun {a o} z => ne_of_none z hD
    have hd1 : (L2.upd H p (.lst (ys.map V.int))) d = some (.dK kvs) := by rw [upd_ne (npd hd)]; exact hd
    have hv1 : (L2.upd H p (.lst (ys.map V.int))) v = some (.ins C dx fs) := by rw [upd_ne (npd hv)]; exact hv
    have hp1 : (L2.upd H p (.lst (ys.map V.int))) p = some (.lst (ys.map V.int)) := upd_same
    have tk1 : TK H (L2.upd H p (.lst (ys.map V.int))) := TK.of (same_upd (Same.refl _) hpn)
    refine lc_it (walk_list (xs := ys.map V.int)) (fun i Hc => ∃ us, Hc = L2.upd (L2.upd H p (.lst (ys.map V.int))) D (.lst us) ∧ us.length = i ∧ ThL (L2.upd H p (.lst (ys.map V.int))) us ((ys.take i).map fun n => (lk m n).getD .non))
      ⟨[], rfl, rfl, .nil⟩ (fun i Hc _ ⟨us, e, _⟩ => by rw [e]; exact SqL.of (by rw [upd_ne (nDd hp1)]; exact hp1)) ?_ ?_
    · rintro i x H1 H2 hi ⟨us, rfl, hus, ht⟩ ⟨rfl, hx⟩
      rw [List.getElem?_map] at hx
      cases e : ys[i]? with
      | none => rw [e] at hx; cases hx
      | some n =>
        rw [e] at hx
        cases hx
        refine ⟨rfl, ?_⟩
        simp only [tYes, if_true]
        have hn : n ∈ m.map (·.1) := hp.mem_iff.mp (List.mem_of_getElem? e)
        obtain ⟨t, ht2⟩ := lk_some_of hn
        rcases (kd.mono tk1).val (n := n) with ⟨_, z⟩ | ⟨y, t', z1, z2, z3⟩
        · rw [ht2] at z; cases z
        rw [ht2] at z2
        cases z2
        refine ⟨_, rfl, v, C, dx, fs, _, rfl, by rw [upd_ne (nDd hv1)]; exact hv1, cC, nC, hl, _, rfl, d, y, rfl, ?_, us, upd_same, ?_, us ++ [y], upd_upd, by rw [List.length_append, hus]; rfl, ?_⟩
        · rw [← z1]
          exact DGet.k (k := .inl n) (by rw [upd_ne (nDd hd1)]; exact hd1)
        · rw [hus]
          rw [List.length_map, hp.length_eq, List.length_map] at hi
          exact Nat.lt_trans hi hlen
        · rw [take_snoc e, List.map_append]
          refine ThL.snoc ?_ ht
          show ThA _ y ((lk m n).getD .non)
          rw [ht2]
          exact z3
    · rintro Hc ⟨us, rfl, hus, ht⟩
      rw [List.length_map, List.take_length] at ht
      have hDH : H D = none := by
        cases z : H D with
        | none => rfl
        | some o => rw [upd_ne (npd z), z] at hD; cases hD
      have sm := same_upd (o := .lst us) (same_upd (o := .lst (ys.map V.int)) (Same.refl H) hpn) hDH
      exact q _ D us _ sm hDH upd_same (ht.mono (TK.of (same_upd (Same.refl _) hD))) (things_of hs nd hp ho)
end
end PV
set_option Elab.async false
set_option linter.all false
set_option maxRecDepth 100000
set_option maxHeartbeats 4000000
/-! Vaults and asks made. -/
namespace PV
open PySem PySem.Spec PyProof.Rows L2
/-- all is kept but what stands at v -/
def But (v : Addr) (H H' : Hp) : Prop := ∀ a o, a ≠ v → H a = some o → H' a = some o
theorem wit_ok {l : List Th} (h : (l.map sealOf).Pairwise (· < ·)) (hf : ∀ t ∈ l, t.fit = true) : (wit l).Ok := by
  refine ⟨fun n t e => ?_, fun _ _ h => (nomatch h), fun _ _ h => (nomatch h), ?_, List.nodup_nil, List.nodup_nil⟩
  · obtain ⟨h1, h2⟩ := (wit_lk h n t).mp e
    exact ⟨h2, hf t h1⟩
  · rw [wit_keys]
    exact rise_nodup h
theorem wit_agr (l : List Th) : (wit l).Agr := fun _ _ _ _ h => nomatch h
def spRI (K : Frag) : Sp := fun vs H Q _ => ∃ v k dx dxk dk kst, vs = [.ref v, .ref k] ∧ H v = some (.ins (He.ga K "Reader") dx []) ∧ k ≠ v ∧ H k = some (.ins (He.ga K "Keeper") dxk [("by_seal", .ref dk)]) ∧ PAt K H k dk dk kst ∧
  ∀ H' d e, But v H H' → H d = none → H e = none → RAt K H' v d e (rdr kst) → Q .non H'
def spWI (K : Frag) : Sp := fun vs H Q _ => ∃ v sl us l dx, vs = [.ref v, .ref sl] ∧ H v = some (.ins (He.ga K "Witness") dx []) ∧ H sl = some (.lst us) ∧ ThL H us l ∧ (l.map sealOf).Pairwise (· < ·) ∧ (∀ t ∈ l, t.fit = true) ∧ l.length ≤ 1000 ∧
  ∀ H' d, But v H H' → H d = none → PAt K H' v d d (wit l) → Q .non H'
section
variable {P : Program} {w : World} {K : Frag} {mg : Str → Option Value} {base : Heap}
theorem sc_ri : FnScope ["self", "keeper"] ["self", "keeper"] (defScope s_Reader_init) := ⟨rfl, rfl, rfl, by decide +kernel, rfl, by decide +kernel, by decide +kernel⟩
theorem sc_wit : FnScope ["self", "some", "new"] ["self", "some"] (defScope s_Witness_init) := ⟨rfl, rfl, rfl, by decide +kernel, rfl, by decide +kernel, by decide +kernel⟩
theorem mk_Keeper (T : Txt K mg) : CalC P w K mg base CX0 1 "Keeper" (He.ga K "Keeper") ["self"] (spVI K) := T.k_Keeper.cal T.g_Keeper (f_vi T) (fun _ _ _ _ _ _ us hl => match us, hl with | [_], _ => rfl)
theorem f_ri (T : Txt K mg) (f : Addr) (fd : FuncData) (F : Fun K "__init__" "Reader.__init__" s_Reader_init f fd) : FnOk P w K mg base CX0 2 f fd ["self", "keeper"] (spRI K) := by
  obtain ⟨fV, fdV, cV, kV, FV⟩ := T.f_Vault_init
  have GV := f_vi (P := P) (w := w) (base := base) T fV fdV FV
  refine F.ok sc_ri (fun vs H Q E h => ?_) (fun cdv A outer s H vs Q E hr h => ?_)
  · obtain ⟨_, _, _, _, _, _, rfl, _⟩ := h
    rfl
  · obtain ⟨v, k, dx, dxk, dk, kst, rfl, hv, hkv, hk, hP, q⟩ := h
    refine ⟨_, pss_cons (ps_expr (pe_clsCall GV cV T.g_Vault kV (FV.binds (fun _ _ _ _ _ _ us hl => match us, hl with | [_], _ => rfl)) hr pass0 (pa_cons (pv 0) pa_nil)))
      (pss_cons (ps_fld (pv 0) (pv 1) rfl) (pss_one (ps_fld (pv 0) pe_dnewK rfl))), ?_⟩
    refine ⟨_, rfl, v, _, dx, rfl, hv, T.c_Reader, T.n_Reader_by_seal, fun d hd => ?_⟩
    have hdv : d ≠ v := fun z => by rw [z, hv] at hd; cases hd
    refine ⟨_, rfl, _, rfl, v, _, dx, _, rfl, upd_same, T.c_Reader, T.n_Reader_beneath, (by show 1 < 1000; decide), fun e he => ?_⟩
    have hev : e ≠ v := fun z => by rw [z, upd_same] at he; cases he
    rw [upd_ne hev, upd_ne hev] at he
    have hde : d ≠ e := fun z => by rw [z, upd_same] at he; cases he
    have heH : H e = none := by rw [upd_ne (Ne.symm hde)] at he; exact he
    refine ⟨_, rfl, v, _, dx, _, rfl, by rw [upd_ne (Ne.symm hev), upd_same], T.c_Reader, T.n_Reader_noted, (by show 2 < 1000; decide), ?_⟩
    obtain ⟨kvs, hdk, hkd⟩ := hP.own
    have nd : ∀ {a : Addr} {o : HO}, H a = some o → a ≠ d := fun {a o} z => ne_of_none z hd
    have ne : ∀ {a : Addr} {o : HO}, H a = some o → a ≠ e := fun {a o} z => ne_of_none z heH
    have but : But v H (L2.upd (L2.upd (L2.upd (L2.upd (L2.upd H d (.dK [])) v (.ins (He.ga K "Reader") dx [("by_seal", .ref d)])) v (.ins (He.ga K "Reader") dx [("by_seal", .ref d), ("beneath", .ref k)])) e (.dK [])) v (.ins (He.ga K "Reader") dx [("by_seal", .ref d), ("beneath", .ref k), ("noted", .ref e)])) := by
      intro a o h1 h2
      rw [upd_ne h1, upd_ne (ne h2), upd_ne h1, upd_ne h1, upd_ne (nd h2)]
      exact h2
    have tk : TK H (L2.upd (L2.upd (L2.upd (L2.upd (L2.upd H d (.dK [])) v (.ins (He.ga K "Reader") dx [("by_seal", .ref d)])) v (.ins (He.ga K "Reader") dx [("by_seal", .ref d), ("beneath", .ref k)])) e (.dK [])) v (.ins (He.ga K "Reader") dx [("by_seal", .ref d), ("beneath", .ref k), ("noted", .ref e)])) := fun a xs h => but a _ (fun z => by rw [z, hv] at h; cases h) h
    have hdkv : dk ≠ v := fun z => by rw [z, hv] at hdk; cases hdk
    refine q _ d e but hd heH ⟨⟨dx, k, dxk, dk, upd_same, but _ _ hkv hk, ⟨kvs, but _ _ hdkv hdk, hkd.mono tk⟩, nd hdk, ne hdk⟩, hde, ⟨[], ?_, .nil⟩, ⟨[], ?_, .nil⟩, rdr_ok hP.ok, rdr_agr kst⟩
    · rw [upd_ne hdv, upd_ne hde, upd_ne hdv, upd_ne hdv, upd_same]
    · rw [upd_ne hev, upd_same]
theorem mk_Reader (T : Txt K mg) : CalC P w K mg base CX0 2 "Reader" (He.ga K "Reader") ["self", "keeper"] (spRI K) := T.k_Reader.cal T.g_Reader (f_ri T) (fun _ _ _ _ _ _ us hl => match us, hl with | [_, _], _ => rfl)
theorem f_wi (T : Txt K mg) (f : Addr) (fd : FuncData) (F : Fun K "__init__" "Witness.__init__" s_Witness_init f fd) : FnOk P w K mg base (L2.CX P w) 10 f fd ["self", "some"] (spWI K) := by
  obtain ⟨fV, fdV, cV, kV, FV⟩ := T.f_Vault_init
  have GV := f_vi (P := P) (w := w) (base := base) T fV fdV FV
  have GT := c_is_thing (P := P) (w := w) (base := base) T
  refine F.okX sc_wit (fun vs H Q E h => ?_) (fun cdv A outer s H vs Q E hr h => ?_)
  · obtain ⟨_, _, _, _, _, rfl, _⟩ := h
    rfl
  · obtain ⟨v, sl, us, l, dx, rfl, hv, hsl, hul, hrise, hfit, hlen, q⟩ := h
    have hr1 : Room 1 (A.deeper (envOfC "Witness.__init__" (defScope s_Witness_init) s.heap.objs.size f cdv)) := hr.mono (by decide)
    have hr8 : Room 8 (A.deeper (envOfC "Witness.__init__" (defScope s_Witness_init) s.heap.objs.size f cdv)) := hr.mono (by decide)
    refine ⟨_, pss_cons (ps_expr (pe_clsCall GV cV T.g_Vault kV (FV.binds (fun _ _ _ _ _ _ us hl => match us, hl with | [_], _ => rfl)) hr1 pass0 (pa_cons (pv 0) pa_nil)))
      (pss_one (ps_for (passes_of rfl) rfl (pi_list (pv 1)) (pg_name (i := 2) sc_wit.nd rfl (.inl rfl))
        (pss_cons (ps_if (pt_not (pt_val (pe_cal GT hr8 pass0 (pa_cons (pv 2) pa_nil)))) pss_never pss_nil)
        (pss_one (ps_expr (pe_methP (pv 0) hr (passes_call (takes_of rfl rfl rfl rfl) (fun _ _ _ _ h => h)) (pa_cons (pv 2) pa_nil))))))), ?_⟩
    refine ⟨_, rfl, v, _, dx, rfl, hv, T.c_Witness, T.n_Witness_by_seal, fun d hd => ?_⟩
    have hdv : d ≠ v := fun z => by rw [z, hv] at hd; cases hd
    have hsv : sl ≠ v := ne_of hsl hv (fun z => nomatch z)
    have nd : ∀ {a : Addr} {o : HO}, H a = some o → a ≠ d := fun {a o} z => ne_of_none z hd
    refine ⟨_, rfl, sl, rfl, ⟨us, SqL.of (by rw [upd_ne hsv, upd_ne (nd hsl)]; exact hsl)⟩, ?_⟩
    have hul2 := hul.len
    refine for_it (walk_list (xs := us)) (fun i σ Hc => ∃ b : Option V, σ = [some (.ref v), some (.ref sl), b] ∧ But v H Hc ∧ Hc v = some (.ins (He.ga K "Witness") dx [("by_seal", .ref d)]) ∧ DAt Hc d (wit (l.take i)).own)
      ⟨none, rfl, fun a o h1 h2 => by rw [upd_ne h1, upd_ne (nd h2)]; exact h2, upd_same, ⟨[], by rw [upd_ne hdv, upd_same], .nil⟩⟩ (fun i σ Hc _ ⟨_, _, b, _⟩ => SqL.of (b _ _ hsv hsl)) ?_ ?_
    · rintro i x σ H1 H2 hi ⟨b, rfl, but, hv1, hd1⟩ ⟨rfl, hx⟩
      obtain ⟨t, ht, hA⟩ := hul.at_ hx
      have tk : TK H H2 := fun a xs h => but a _ (ne_of h hv (fun z => nomatch z)) h
      have hA1 := hA.mono tk
      have htm : t ∈ l := List.mem_of_getElem? ht
      have hf := hfit t htm
      refine ⟨_, rfl, x, t, rfl, hA1, (fit_iff.mp hf).1, _, rfl, iteF ?_⟩
      have hsub : (l.take i).Sublist l := List.take_sublist _ _
      have hr2 : ((l.take i).map sealOf).Pairwise (· < ·) := hrise.sublist (hsub.map _)
      have hnew : lk (wit (l.take i)).own (sealOf t) = none := by
        cases e : lk (wit (l.take i)).own (sealOf t) with
        | none => rfl
        | some y =>
          obtain ⟨h1, h2⟩ := (wit_lk hr2 _ _).mp e
          have hr3 : ((l.take (i + 1)).map sealOf).Pairwise (· < ·) := hrise.sublist ((List.take_sublist _ _).map _)
          rw [take_snoc ht, List.map_append, List.pairwise_append] at hr3
          have h3 := hr3.2.2 (sealOf y) (List.mem_map.mpr ⟨y, h1, rfl⟩) (sealOf t) (by simp)
          rw [h2] at h3
          exact absurd h3 (Int.lt_irrefl _)
      refine ⟨_, rfl, v, _, dx, _, _, _, rfl, hv1, rfl, T.c_Witness, T.m_Witness_lay.cal (f_vl T) (fun _ _ _ _ _ _ us hl => match us, hl with | [_, _], _ => rfl), _, rfl, v, d, x, t, (wit (l.take i)).own, rfl, ⟨_, dx, _, hv1, T.c_Witness, T.n_Witness_by_seal, rfl⟩, hd1, hA1, hf,
        fun y z => by (rw [hnew] at z; cases z), fun y z => by (rw [hnew] at z; cases z), fun _ => ⟨?_, fun H3 fr hd3 => ?_⟩⟩
      · show ((l.take i).map _).length < 1000000
        rw [List.length_map, List.length_take]
        omega
      · have hvd : v ≠ d := Ne.symm hdv
        refine ⟨_, rfl, fun a o h1 h2 => fr _ _ (nd h2) (nd h2) (but a o h1 h2), fr _ _ hvd hvd hv1, ?_⟩
        have e1 : (wit (l.take (i + 1))).own = pt (wit (l.take i)).own (sealOf t) t := by
          unfold pt
          rw [hnew, if_neg (by decide)]
          show ((l.take (i + 1)).map fun t => (sealOf t, t)) = ((l.take i).map fun t => (sealOf t, t)) ++ _
          rw [take_snoc ht, List.map_append]
          rfl
        rw [e1]
        exact hd3
    · rintro σ Hc ⟨b, rfl, but, hv1, hd1⟩
      rw [hul2, List.take_length] at hd1
      exact q Hc d but hd ⟨⟨_, dx, .inr rfl, hv1⟩, rfl, hd1, rfl, rfl, wit_ok hrise hfit, wit_agr l⟩
theorem mk_Witness (T : Txt K mg) : CalC P w K mg base (L2.CX P w) 10 "Witness" (He.ga K "Witness") ["self", "some"] (spWI K) := T.k_Witness.cal T.g_Witness (f_wi T) (fun _ _ _ _ _ _ us hl => match us, hl with | [_, _], _ => rfl)
end
/-! ### asks -/
def spI1 (C : Addr) (f : Str) : Sp := fun vs H Q _ => ∃ a y dx, vs = [.ref a, y] ∧ H a = some (.ins C dx []) ∧ Q .non (L2.upd H a (.ins C dx [(f, y)]))
def spI2 (C : Addr) (f g : Str) : Sp := fun vs H Q _ => ∃ a x y dx, vs = [.ref a, x, y] ∧ H a = some (.ins C dx []) ∧ Q .non (L2.upd (L2.upd H a (.ins C dx [(f, x)])) a (.ins C dx [(f, x), (g, y)]))
def spIA (K : Frag) : Sp := fun vs H Q _ => ∃ a p us dx, vs = [.ref a, .ref p] ∧ H a = some (.ins (He.ga K "Also") dx []) ∧ SqL K H p us ∧ ∀ l, H l = none → Q .non (L2.upd (L2.upd H l (.lst us)) a (.ins (He.ga K "Also") dx [("asks", .ref l)]))
section
variable {P : Program} {w : World} {K : Frag} {mg : Str → Option Value} {base : Heap}
theorem sc_iFind : FnScope ["self", "key"] ["self", "key"] (defScope s_Find_init) := ⟨rfl, rfl, rfl, by decide +kernel, rfl, by decide +kernel, by decide +kernel⟩
theorem mk_Find (T : Txt K mg) : CalC P w K mg base CX0 1 "Find" (He.ga K "Find") ["self", "key"] (spI1 (He.ga K "Find") "key") := by
  refine T.k_Find.cal T.g_Find (fun f fd F => F.ok sc_iFind (fun vs H Q E h => ?_) (fun cdv A outer s H vs Q E hr h => ?_)) (fun _ _ _ _ _ _ us hl => match us, hl with | [_, _], _ => rfl)
  · obtain ⟨_, _, _, rfl, _⟩ := h
    rfl
  · obtain ⟨a, y, dx, rfl, ha, q⟩ := h
    exact ⟨_, pss_one (ps_fld (pv 0) (pv 1) rfl), _, rfl, _, rfl, a, _, dx, [], rfl, ha, T.c_Find, T.n_Find_key, (by show 0 < 1000; decide), q⟩
theorem sc_iNth : FnScope ["self", "number"] ["self", "number"] (defScope s_Nth_init) := ⟨rfl, rfl, rfl, by decide +kernel, rfl, by decide +kernel, by decide +kernel⟩
theorem mk_Nth (T : Txt K mg) : CalC P w K mg base CX0 1 "Nth" (He.ga K "Nth") ["self", "number"] (spI1 (He.ga K "Nth") "number") := by
  refine T.k_Nth.cal T.g_Nth (fun f fd F => F.ok sc_iNth (fun vs H Q E h => ?_) (fun cdv A outer s H vs Q E hr h => ?_)) (fun _ _ _ _ _ _ us hl => match us, hl with | [_, _], _ => rfl)
  · obtain ⟨_, _, _, rfl, _⟩ := h
    rfl
  · obtain ⟨a, y, dx, rfl, ha, q⟩ := h
    exact ⟨_, pss_one (ps_fld (pv 0) (pv 1) rfl), _, rfl, _, rfl, a, _, dx, [], rfl, ha, T.c_Nth, T.n_Nth_number, (by show 0 < 1000; decide), q⟩
theorem sc_iCut : FnScope ["self", "key"] ["self", "key"] (defScope s_Cut_init) := ⟨rfl, rfl, rfl, by decide +kernel, rfl, by decide +kernel, by decide +kernel⟩
theorem mk_Cut (T : Txt K mg) : CalC P w K mg base CX0 1 "Cut" (He.ga K "Cut") ["self", "key"] (spI1 (He.ga K "Cut") "key") := by
  refine T.k_Cut.cal T.g_Cut (fun f fd F => F.ok sc_iCut (fun vs H Q E h => ?_) (fun cdv A outer s H vs Q E hr h => ?_)) (fun _ _ _ _ _ _ us hl => match us, hl with | [_, _], _ => rfl)
  · obtain ⟨_, _, _, rfl, _⟩ := h
    rfl
  · obtain ⟨a, y, dx, rfl, ha, q⟩ := h
    exact ⟨_, pss_one (ps_fld (pv 0) (pv 1) rfl), _, rfl, _, rfl, a, _, dx, [], rfl, ha, T.c_Cut, T.n_Cut_key, (by show 0 < 1000; decide), q⟩
theorem sc_iStretch : FnScope ["self", "low", "high"] ["self", "low", "high"] (defScope s_Stretch_init) := ⟨rfl, rfl, rfl, by decide +kernel, rfl, by decide +kernel, by decide +kernel⟩
theorem mk_Stretch (T : Txt K mg) : CalC P w K mg base CX0 1 "Stretch" (He.ga K "Stretch") ["self", "low", "high"] (spI2 (He.ga K "Stretch") "low" "high") := by
  refine T.k_Stretch.cal T.g_Stretch (fun f fd F => F.ok sc_iStretch (fun vs H Q E h => ?_) (fun cdv A outer s H vs Q E hr h => ?_)) (fun _ _ _ _ _ _ us hl => match us, hl with | [_, _, _], _ => rfl)
  · obtain ⟨_, _, _, _, rfl, _⟩ := h
    rfl
  · obtain ⟨a, x, y, dx, rfl, ha, q⟩ := h
    refine ⟨_, pss_cons (ps_fld (pv 0) (pv 1) rfl) (pss_one (ps_fld (pv 0) (pv 2) rfl)), ?_⟩
    refine ⟨_, rfl, _, rfl, a, _, dx, [], rfl, ha, T.c_Stretch, T.n_Stretch_low, (by show 0 < 1000; decide), ?_⟩
    exact ⟨_, rfl, _, rfl, a, _, dx, _, rfl, upd_same, T.c_Stretch, T.n_Stretch_high, (by show 1 < 1000; decide), q⟩
theorem sc_iCount : FnScope ["self", "low", "high"] ["self", "low", "high"] (defScope s_Count_init) := ⟨rfl, rfl, rfl, by decide +kernel, rfl, by decide +kernel, by decide +kernel⟩
theorem mk_Count (T : Txt K mg) : CalC P w K mg base CX0 1 "Count" (He.ga K "Count") ["self", "low", "high"] (spI2 (He.ga K "Count") "low" "high") := by
  refine T.k_Count.cal T.g_Count (fun f fd F => F.ok sc_iCount (fun vs H Q E h => ?_) (fun cdv A outer s H vs Q E hr h => ?_)) (fun _ _ _ _ _ _ us hl => match us, hl with | [_, _, _], _ => rfl)
  · obtain ⟨_, _, _, _, rfl, _⟩ := h
    rfl
  · obtain ⟨a, x, y, dx, rfl, ha, q⟩ := h
    refine ⟨_, pss_cons (ps_fld (pv 0) (pv 1) rfl) (pss_one (ps_fld (pv 0) (pv 2) rfl)), ?_⟩
    refine ⟨_, rfl, _, rfl, a, _, dx, [], rfl, ha, T.c_Count, T.n_Count_low, (by show 0 < 1000; decide), ?_⟩
    exact ⟨_, rfl, _, rfl, a, _, dx, _, rfl, upd_same, T.c_Count, T.n_Count_high, (by show 1 < 1000; decide), q⟩
theorem sc_iPut : FnScope ["self", "key", "worth"] ["self", "key", "worth"] (defScope s_Put_init) := ⟨rfl, rfl, rfl, by decide +kernel, rfl, by decide +kernel, by decide +kernel⟩
theorem mk_Put (T : Txt K mg) : CalC P w K mg base CX0 1 "Put" (He.ga K "Put") ["self", "key", "worth"] (spI2 (He.ga K "Put") "key" "worth") := by
  refine T.k_Put.cal T.g_Put (fun f fd F => F.ok sc_iPut (fun vs H Q E h => ?_) (fun cdv A outer s H vs Q E hr h => ?_)) (fun _ _ _ _ _ _ us hl => match us, hl with | [_, _, _], _ => rfl)
  · obtain ⟨_, _, _, _, rfl, _⟩ := h
    rfl
  · obtain ⟨a, x, y, dx, rfl, ha, q⟩ := h
    refine ⟨_, pss_cons (ps_fld (pv 0) (pv 1) rfl) (pss_one (ps_fld (pv 0) (pv 2) rfl)), ?_⟩
    refine ⟨_, rfl, _, rfl, a, _, dx, [], rfl, ha, T.c_Put, T.n_Put_key, (by show 0 < 1000; decide), ?_⟩
    exact ⟨_, rfl, _, rfl, a, _, dx, _, rfl, upd_same, T.c_Put, T.n_Put_worth, (by show 1 < 1000; decide), q⟩
theorem sc_iAlso : FnScope ["self", "asks"] ["self", "asks"] (defScope s_Also_init) := ⟨rfl, rfl, rfl, by decide +kernel, rfl, by decide +kernel, by decide +kernel⟩
theorem mk_Also (T : Txt K mg) : CalC P w K mg base CX0 1 "Also" (He.ga K "Also") ["self", "asks"] (spIA K) := by
  refine T.k_Also.cal T.g_Also (fun f fd F => F.ok sc_iAlso (fun vs H Q E h => ?_) (fun cdv A outer s H vs Q E hr h => ?_)) (fun _ _ _ _ _ _ us hl => match us, hl with | [_, _], _ => rfl)
  · obtain ⟨_, _, _, _, rfl, _⟩ := h
    rfl
  · obtain ⟨a, p, us, dx, rfl, ha, hp, q⟩ := h
    refine ⟨_, pss_one (ps_fld (pv 0) (pe_callTy call_list_of (by rfl) T.b_list PyProof.Rows.boot_list (pa_cons (pv 1) pa_nil)) rfl), ?_⟩
    refine ⟨_, rfl, p, us, rfl, .inl hp, fun l hl => ?_⟩
    exact ⟨_, rfl, a, _, dx, [], rfl, by rw [upd_ne (ne_of_none ha hl)]; exact ha, T.c_Also, T.n_Also_asks, (by show 0 < 1000; decide), q l hl⟩
end
end PV
set_option Elab.async false
set_option linter.all false
set_option maxRecDepth 100000
set_option maxHeartbeats 4000000
/-! Papers: given, checked, shown. -/
namespace PV
open PySem PySem.Spec PyProof.Rows L2
theorem SqL.same {K : Frag} {H H' : Hp} (s : Same H H') {a : Addr} {xs : List V} (h : SqL K H a xs) : SqL K H' a xs := by
  rcases h with (h | ⟨o, h⟩) | h
  · exact .inl (.inl (s _ _ h))
  · exact .inl (.inr ⟨o, s _ _ h⟩)
  · exact .inr h
theorem SqT.same {K : Frag} {H H' : Hp} (s : Same H H') {a : Addr} {xs : List V} (h : SqT K H a xs) : SqT K H' a xs := by
  rcases h with (h | ⟨o, h⟩) | h
  · exact .inl (.inl (s _ _ h))
  · exact .inl (.inr ⟨o, s _ _ h⟩)
  · exact .inr h
mutual
theorem dp_same {K : Frag} {H H' : Hp} (s : Same H H') : ∀ {v : V} {d : PyData}, Dp K H v d → Dp K H' v d
  | _, _, .non => .non
  | _, _, .bl b => .bl b
  | _, _, .int i => .int i
  | _, _, .str x => .str x
  | _, _, .lst h r => .lst (SqL.same s h) (dpAll_same s r)
  | _, _, .tup h r => .tup (SqT.same s h) (dpAll_same s r)
theorem dpAll_same {K : Frag} {H H' : Hp} (s : Same H H') : ∀ {vs : List V} {ds : List PyData}, DpAll K H vs ds → DpAll K H' vs ds
  | _, _, .nil => .nil
  | _, _, .cons h r => .cons (dp_same s h) (dpAll_same s r)
end
theorem wp_len {α : Type} {p : Prog α} {s : VS} {m : Nat} {Q : α → VS → Prop} {N : Prop} {C : Th → Th → Prop} (hp : p.le m) (k : s.Ok) (g : s.Agr) (h : wpr p s Q N C) : wpr p s (fun a s' => Q a s' ∧ s'.noted.length ≤ s.noted.length + m) N C := by
  have q := run_len p m s hp k g
  unfold wpr at h ⊢
  cases e : run p s with
  | ok a s' =>
    rw [e] at h
    exact ⟨h, (q a s' e).2⟩
  | nop => rw [e] at h; exact h
  | clash x y => rw [e] at h; exact h
  | bad => rw [e] at h; exact h
/-- answer_with_paper -/
def spAwp (K : Frag) : Sp := fun vs H Q E => ∃ k u dxk dk kst root q, vs = [.ref k, .int root, u] ∧ H k = some (.ins (He.ga K "Keeper") dxk [("by_seal", .ref dk)]) ∧ PAt K H k dk dk kst ∧ AkAt K H u q ∧ (q.prog root).le 600 ∧
  wpr (q.prog root) (rdr kst) (fun x st' => ∀ (H' : Hp) p ut pp us l, Same H H' → H' p = some (.tup [ut, .ref pp]) → Dp K H' ut x → H' pp = some (.lst us) → ThL H' us l → IsThings st'.noted l → Q (.ref p) H')
    (∀ H', Same H H' → E (.ref (He.ga K "NoPaper")) none H') fun x y => ∀ (H' : Hp) dd vx vy, Same H H' → H' dd = some (HO.xd [("other", vy), ("one", vx)]) → ThA H' vx x → ThA H' vy y → E (.ref (He.ga K "Clash")) (some dd) H'
/-- checked -/
def spChk (K : Frag) : Sp := fun vs H Q E => ∃ u sl us l root q, vs = [.int root, u, .ref sl] ∧ AkAt K H u q ∧ H sl = some (.lst us) ∧ ThL H us l ∧ (l.map sealOf).Pairwise (· < ·) ∧ (∀ t ∈ l, t.fit = true) ∧ l.length ≤ 1000 ∧
  wpr (q.prog root) (wit l) (fun x _ => ∀ (H' : Hp) ut, Same H H' → Dp K H' ut x → Q ut H')
    (∀ H', Same H H' → E (.ref (He.ga K "NoPaper")) none H') fun x y => ∀ (H' : Hp) dd vx vy, Same H H' → H' dd = some (HO.xd [("other", vy), ("one", vx)]) → ThA H' vx x → ThA H' vy y → E (.ref (He.ga K "Clash")) (some dd) H'
/-- shown, where nothing is wrong -/
def spShown (K : Frag) : Sp := fun vs H Q _ => ∃ u sl us l k dxk dk kst root q x w' s', vs = [.int root, u, .ref sl, .ref k] ∧ AkAt K H u q ∧ H sl = some (.lst us) ∧ ThL H us l ∧ (l.map sealOf).Pairwise (· < ·) ∧ (∀ t ∈ l, t.fit = true) ∧ l.length ≤ 1000 ∧
  H k = some (.ins (He.ga K "Keeper") dxk [("by_seal", .ref dk)]) ∧ PAt K H k dk dk kst ∧ run (q.prog root) (wit l) = .ok x w' ∧ run (q.prog root) (rdr kst) = .ok x s' ∧ SeqAt.shaped x = true ∧ ∀ H', Same H H' → Q (.str "right") H'
/-- a reader made -/
theorem made_reader {K : Frag} {H : Hp} {k v dx dxk dk : Addr} {kst : VS} (hk : H k = some (.ins (He.ga K "Keeper") dxk [("by_seal", .ref dk)])) (hP : PAt K H k dk dk kst) (hv : H v = none) (hdx : H dx = none) (hne : dx ≠ v) {Q : Hp → Prop}
    (q : ∀ H' d e, Same H H' → H d = none → H e = none → RAt K H' v d e (rdr kst) → Q H') : spRI K ([.ref v, .ref k]) (L2.upd (L2.upd H dx (.own v)) v (.ins (He.ga K "Reader") dx [])) (fun x H2 => x = .non ∧ Q H2) (fun _ _ _ => False) := by
  have sm : Same H (L2.upd (L2.upd H dx (.own v)) v (.ins (He.ga K "Reader") dx [])) := fun a o z => by
    rw [upd_ne (ne_of_none z hv), upd_ne (ne_of_none z hdx)]
    exact z
  refine ⟨v, k, dx, dxk, dk, kst, rfl, upd_same, ne_of_none hk hv, sm _ _ hk, hP.same sm, fun H' d e but hd he R => ⟨rfl, q H' d e (fun a o z => but a o (ne_of_none z hv) (sm _ _ z)) ?_ ?_ R⟩⟩
  · cases z : H d with
    | none => rfl
    | some o => rw [sm _ _ z] at hd; cases hd
  · cases z : H e with
    | none => rfl
    | some o => rw [sm _ _ z] at he; cases he
theorem same_of_fr {H H' H2 : Hp} {d e : Addr} (s : Same H H') (hd : H d = none) (he : H e = none) (f : Fr d e H' H2) : Same H H2 := fun a o z => f a o (ne_of_none z hd) (ne_of_none z he) (s _ _ z)
theorem RAt_of {K : Frag} {H : Hp} {v d e dx : Addr} {st : VS} {C : Addr} {a b c : Str × V} (h : VAt K H v d e st) (hv : H v = some (.ins C dx [a, b, c])) : RAt K H v d e st := by
  rcases h with h | h
  · obtain ⟨C2, dx2, _, hv2⟩ := h.ins
    rw [hv] at hv2
    cases hv2
  · exact h
section
variable {P : Program} {w : World} {K : Frag} {mg : Str → Option Value} {base : Heap}
theorem sc_aw : FnScope ["keeper", "root", "ask", "reader", "told"] ["keeper", "root", "ask"] (defScope s_answer_with_paper) := ⟨rfl, rfl, rfl, by decide +kernel, rfl, by decide +kernel, by decide +kernel⟩
theorem sc_ck : FnScope ["root", "ask", "some"] ["root", "ask", "some"] (defScope s_checked) := ⟨rfl, rfl, rfl, by decide +kernel, rfl, by decide +kernel, by decide +kernel⟩
theorem sc_sw : FnScope ["root", "ask", "paper", "keeper", "answer"] ["root", "ask", "paper", "keeper"] (defScope s_shown) := ⟨rfl, rfl, rfl, by decide +kernel, rfl, by decide +kernel, by decide +kernel⟩
theorem c_awp (T : Txt K mg) : Cal P w K mg base (L2.CX P w) 15 "answer_with_paper" ["keeper", "root", "ask"] (spAwp K) := by
  have GR := mk_Reader (P := P) (w := w) (base := base) T
  refine T.d_answer_with_paper.cal (fun f fd F => F.okX sc_aw (fun vs H Q E h => ?_) (fun cdv A outer s H vs Q E hr h => ?_)) (fun _ _ _ _ _ _ us hl => match us, hl with | [_, _, _], _ => rfl)
  · obtain ⟨_, _, _, _, _, _, _, rfl, _⟩ := h
    rfl
  · obtain ⟨k, u, dxk, dk, kst, root, q, rfl, hk, hP, hA, hle, h⟩ := h
    have hr3 : Room 3 (A.deeper (envOfC "answer_with_paper" (defScope s_answer_with_paper) s.heap.objs.size f cdv)) := hr.mono (by decide)
    have hr1 : Room 1 (A.deeper (envOfC "answer_with_paper" (defScope s_answer_with_paper) s.heap.objs.size f cdv)) := hr.mono (by decide)
    refine ⟨_, pss_cons (ps_set (i := 3) sc_aw.nd rfl (.inl rfl) (pe_mk GR hr3 pass0 (E := fun _ _ _ => False) (pa_cons (pv 0) pa_nil)))
      (pss_cons (ps_set (i := 4) sc_aw.nd rfl (.inl rfl) (pe_methP (pv 2) hr (passes_call (takes_of rfl rfl rfl rfl) (fun _ _ _ _ h => h)) (pa_cons (pv 3) (pa_cons (pv 1) pa_nil))))
      (pss_one (ps_ret (pe_tup (pa_cons (pv 4) (pa_cons (pe_methP0 (E := fun _ _ _ => False) (pv 3) hr1 pass0) pa_nil)))))), ?_⟩
    refine ⟨_, rfl, fun v dx hv hdx hne => made_reader hk hP hv hdx hne fun H1 d e s1 hd he R => ?_⟩
    have hA1 := hA.nk (NK.of s1)
    obtain ⟨a, C, dx2, fs, sp, rfl, ha, hlk, cC, cm, hsp⟩ := m_ak (P := P) (w := w) (base := base) T hA1
    refine ⟨_, rfl, a, C, dx2, fs, _, sp, rfl, ha, hlk, cC, cm, _, rfl, _, rfl, hsp H1 v d e (rdr kst) root _ _ (NK.refl _) (.inr R) ?_⟩
    obtain ⟨dxr, b, dxb, db, hvr, _⟩ := R.ins
    refine wp_mono (wp_len hle R.ok R.agr h) (fun x st' hq H2 ut fr V2 hd2 => ?_) (fun hq H2 fr => hq H2 (same_of_fr s1 hd he fr)) (fun x y hq H2 dd vx vy fr => hq H2 dd vx vy (same_of_fr s1 hd he fr))
    obtain ⟨hq, hlen⟩ := hq
    have hvr2 := (VAt.nk (.inr R) fr) _ _ hvr (fun _ z => nomatch z)
    have R2 := RAt_of V2 hvr2
    have s2 := same_of_fr s1 hd he fr
    refine ⟨_, rfl, _, rfl, v, _, dxr, _, _, _, rfl, hvr2, rfl, T.c_Reader, T.m_Reader_paper.cal (f_paper T) (fun _ _ _ _ _ _ us hl => match us, hl with | [_], _ => rfl),
      v, _, dxr, _, e, st'.noted, rfl, hvr2, T.c_Reader, T.n_Reader_noted, rfl, R2.noted, R2.ok.nd3, fun n t z => (R2.ok.below n t (R2.ok.noted n t z)).1, ?_, fun H3 pp us l s3 hpp hpl htl hth => ⟨(by show 2 ≤ sizeLine; decide), fun p hp => ?_⟩⟩
    · have e0 : (rdr kst).noted.length = 0 := rfl
      exact Nat.lt_of_le_of_lt (show st'.noted.length ≤ 600 by omega) (by decide)
    · have s4 := same_upd (o := .tup [ut, .ref pp]) (Same.refl H3) hp
      exact hq _ p ut pp us l ((s2.trans s3).trans s4) upd_same (dp_same (s3.trans s4) hd2) (s4 _ _ hpl) (htl.mono (TK.of s4)) hth
theorem c_checked (T : Txt K mg) : Cal P w K mg base (L2.CX P w) 15 "checked" ["root", "ask", "some"] (spChk K) := by
  have GW := mk_Witness (P := P) (w := w) (base := base) T
  refine T.d_checked.cal (fun f fd F => F.okX sc_ck (fun vs H Q E h => ?_) (fun cdv A outer s H vs Q E hr h => ?_)) (fun _ _ _ _ _ _ us hl => match us, hl with | [_, _, _], _ => rfl)
  · obtain ⟨_, _, _, _, _, _, rfl, _⟩ := h
    rfl
  · obtain ⟨u, sl, us, l, root, q, rfl, hA, hsl, htl, hri, hfi, hlen, h⟩ := h
    have hr11 : Room 11 (A.deeper (envOfC "checked" (defScope s_checked) s.heap.objs.size f cdv)) := hr.mono (by decide)
    refine ⟨_, pss_one (ps_ret (pe_methP (pv 1) hr (passes_call (takes_of rfl rfl rfl rfl) (fun _ _ _ _ h => h)) (pa_cons (pe_mk GW hr11 (passes_call (takes_of rfl rfl rfl rfl) (fun _ _ _ _ h => h)) (pa_cons (pv 2) pa_nil)) (pa_cons (pv 0) pa_nil)))), ?_⟩
    obtain ⟨a, C, dx2, fs, sp, rfl, ha, hlk, cC, cm, hsp⟩ := m_ak (P := P) (w := w) (base := base) T hA
    refine ⟨_, rfl, a, C, dx2, fs, _, sp, rfl, ha, hlk, cC, cm, _, rfl, fun v dx hv hdx hne => ?_⟩
    have sm : Same H (L2.upd (L2.upd H dx (.own v)) v (.ins (He.ga K "Witness") dx [])) := fun a o z => by
      rw [upd_ne (ne_of_none z hv), upd_ne (ne_of_none z hdx)]
      exact z
    refine ⟨v, sl, us, l, dx, rfl, upd_same, sm _ _ hsl, htl.mono (TK.of sm), hri, hfi, hlen, fun H1 d but hd hP => ⟨rfl, _, rfl, ?_⟩⟩
    have s1 : Same H H1 := fun a o z => but a o (ne_of_none z hv) (sm _ _ z)
    have hdH : H d = none := by
      cases z : H d with
      | none => rfl
      | some o => rw [sm _ _ z] at hd; cases hd
    refine hsp H1 v d d (wit l) root _ _ (NK.of s1) (.inl hP) (wp_mono h (fun x st' hq H2 ut fr V2 hd2 => hq H2 ut (same_of_fr s1 hdH hdH fr) hd2) (fun hq H2 fr => hq H2 (same_of_fr s1 hdH hdH fr)) (fun x y hq H2 dd vx vy fr => hq H2 dd vx vy (same_of_fr s1 hdH hdH fr)))
theorem c_shown (T : Txt K mg) : Cal P w K mg base CX0 16 "shown" ["root", "ask", "paper", "keeper"] (spShown K) := by
  have GC := c_checked (P := P) (w := w) (base := base) T
  have GR := mk_Reader (P := P) (w := w) (base := base) T
  refine T.d_shown.cal (fun f fd F => F.ok sc_sw (fun vs H Q E h => ?_) (fun cdv A outer s H vs Q E hr h => ?_)) (fun _ _ _ _ _ _ us hl => match us, hl with | [_, _, _, _], _ => rfl)
  · obtain ⟨_, _, _, _, _, _, _, _, _, _, _, _, _, rfl, _⟩ := h
    rfl
  · obtain ⟨u, sl, us, l, k, dxk, dk, kst, root, q, x, w', s', rfl, hA, hsl, htl, hri, hfi, hlen, hk, hP, e1, e2, hsh, hq⟩ := h
    have hr3 : Room 3 (A.deeper (envOfC "shown" (defScope s_shown) s.heap.objs.size f cdv)) := hr.mono (by decide)
    have hr14 : Room 14 (A.deeper (envOfC "shown" (defScope s_shown) s.heap.objs.size f cdv)) := hr.mono (by decide)
    refine ⟨_, pss_cons (ps_try_thru0 (pss_one (ps_set (i := 4) sc_sw.nd rfl (.inl rfl) (pe_cal GC hr passL (pa_cons (pv 0) (pa_cons (pv 1) (pa_cons (pv 2) pa_nil)))))))
      (pss_cons (ps_try_thru0 (pss_one (ps_if (pt_cmpR (op_eqD hr.units) (pe_methP (pv 1) hr14 passL (pa_cons (pe_mk (E := fun _ _ _ => False) GR hr3 pass0 (pa_cons (pv 3) pa_nil)) (pa_cons (pv 0) pa_nil))) (pv 4) (nomark _)) (pss_one (ps_ret pe_str)) pss_nil)))
        pss_never), ?_⟩
    refine ⟨_, rfl, _, rfl, _, rfl, u, sl, us, l, root, q, rfl, hA, hsl, htl, hri, hfi, hlen, ?_⟩
    unfold wpr
    rw [e1]
    intro H1 ut s1 hd1
    have hA1 := hA.nk (NK.of s1)
    obtain ⟨a, C, dx2, fs, sp, rfl, ha, hlk, cC, cm, hsp⟩ := m_ak (P := P) (w := w) (base := base) T hA1
    refine ⟨_, rfl, a, C, dx2, fs, _, sp, rfl, ha, hlk, cC, cm, _, rfl, fun v dx hv hdx hne => made_reader (s1 _ _ hk) (hP.same s1) hv hdx hne fun H2 d e s2 hd he R => ⟨_, rfl, ?_⟩⟩
    refine hsp H2 v d e (rdr kst) root _ _ (NK.of s2) (.inr R) ?_
    unfold SpP wpr
    rw [e2]
    intro H3 ut2 fr V3 hd3
    have s3 := same_of_fr s2 hd he fr
    refine ⟨_, rfl, x, x, hd3, dp_same s3 hd1, hsh, hsh, _, rfl, ?_⟩
    have er : PyData.eqv x x = true := SeqAt.eqv_refl x (SeqAt.canLay_of_shaped hsh)
    exact eqB er (hq H3 (s1.trans s3))
end
end PV
set_option Elab.async false
set_option linter.all false
set_option maxRecDepth 100000
set_option maxHeartbeats 4000000
/-! The law's numbers as keys, worths, asks; answers are of a shape; clashes may be laid. -/
namespace PV
open PySem PySem.Spec PyProof.Rows L2
/-! ### what every run keeps, besides -/
theorem wp_post {α : Type} {P : α → Prop} {Q : α → VS → Prop} {N : Prop} {C : Th → Th → Prop} : ∀ (p : Prog α) (s : VS), post p P → wpr p s Q N C → wpr p s (fun a s' => Q a s' ∧ P a) N C
  | .ret _, _, h, k => ⟨k, h⟩
  | .bad, _, _, k => k
  | .rd n f, s, h, k => by
    unfold wpr run at k ⊢
    cases e : s.get n with
    | got t s' => rw [e] at k; exact wp_post (f t) s' (h t) k
    | lacks => rw [e] at k; exact k
    | over => rw [e] at k; exact k
  | .ly t f, s, h, k => by
    unfold wpr run at k ⊢
    cases e : s.lay t with
    | ok n s' => rw [e] at k; exact wp_post (f n) s' (h n) k
    | clash x y => rw [e] at k; exact k
    | over => rw [e] at k; exact k
theorem lay_fit {s : VS} {t x y : Th} (k : s.Ok) (h : s.lay t = .clash x y) : x.fit = true ∧ y.fit = true := by
  unfold VS.lay at h
  cases ef : t.fit with
  | false => rw [ef, if_pos rfl] at h; cases h
  | true =>
    rw [ef, if_neg (by decide)] at h
    have l2 : s.lay2 t = .clash x y → x.fit = true ∧ y.fit = true := by
      intro h
      unfold VS.lay2 at h
      cases e : lk s.own (sealOf t) with
      | none =>
        rw [e] at h
        dsimp only at h
        split at h <;> cases h
      | some z =>
        rw [e] at h
        dsimp only at h
        split at h
        · cases h
          exact ⟨(k.own _ _ e).2, ef⟩
        · split at h <;> cases h
    cases e : lk s.below (sealOf t) with
    | none => rw [e] at h; exact l2 h
    | some z =>
      rw [e] at h
      dsimp only at h
      split at h
      · cases h
        exact ⟨(k.below _ _ e).2, ef⟩
      · exact l2 h
theorem wp_fit {α : Type} {Q : α → VS → Prop} {N : Prop} {C : Th → Th → Prop} : ∀ (p : Prog α) (s : VS), s.Ok → s.Agr → wpr p s Q N C → wpr p s Q N (fun x y => C x y ∧ x.fit = true ∧ y.fit = true)
  | .ret _, _, _, _, k => k
  | .bad, _, _, _, k => k
  | .rd n f, s, ok, g, k => by
    have q := get_ok (n := n) ok g
    unfold wpr run at k ⊢
    cases e : s.get n with
    | got t s' => rw [e] at k q; exact wp_fit (f t) s' q.2.1 q.2.2.1 k
    | lacks => rw [e] at k; exact k
    | over => rw [e] at k; exact k
  | .ly t f, s, ok, g, k => by
    have q := lay_ok (t := t) ok g
    unfold wpr run at k ⊢
    cases e : s.lay t with
    | ok n s' => rw [e] at k q; exact wp_fit (f n) s' q.2.1 q.2.2.1 k
    | clash x y => rw [e] at k; exact ⟨k, lay_fit ok e⟩
    | over => rw [e] at k; exact k

/-! ### answers are of a shape -/
def Flat (d : PyData) : Prop := d.canLay0 = true ∧ d.depth ≤ 10
theorem flat_th {t : Th} {k : Nat} (hk : k ≤ 10) (h : t.within k = true) : Flat t.data := ⟨lay_of k t h, Nat.le_trans (depth_of k t h) hk⟩
theorem nd_parts {d : Nd} (h : d.Ok) : d.k.th.within 4 = true ∧ d.w.within 4 = true := by
  have q := (fit_iff.mp h.win).1
  unfold Nd.th at q
  rw [Th.within, Bool.and_eq_true] at q
  exact ⟨withinL_mem q.2 _ List.mem_cons_self, withinL_mem q.2 _ (List.mem_cons_of_mem _ List.mem_cons_self)⟩
def OkP (p : Ky × Th) : Prop := p.1.th.within 4 = true ∧ p.2.within 4 = true
theorem pr_within {p : Ky × Th} (h : OkP p) : (Th.tup [p.1.th, p.2]).within 5 = true := by
  rw [Th.within, Bool.and_eq_true]
  refine ⟨by simp, withinL_of fun a ha => ?_⟩
  simp only [List.mem_cons, List.not_mem_nil, or_false] at ha
  rcases ha with rfl | rfl
  · exact h.1
  · exact h.2
theorem post_node (root : Int) : post (nodeP root) Nd.Ok := by
  intro t
  dsimp only
  cases e : asNd t with
  | some d => exact (asNd_eq e).2
  | none => trivial
theorem post_beneath (root c : Int) : post (beneathP root c) Nd.Ok := post_bind _ _ (post_node root) fun d h => post_if h trivial
theorem post_found : ∀ (f : Nat) (root : Int) (key : Ky) (c : Int), post (foundP f root key c) fun t => t.within 4 = true
  | 0, _, _, _ => trivial
  | f + 1, root, key, c => post_if (by show Th.within 4 .non = true; rfl) (post_bind _ _ (post_beneath root c) fun d h => post_if (nd_parts h).2 (post_found f _ key d.c))
theorem post_stretch (lo hi : Option Ky) : ∀ (f : Nat) (st : List SI) (acc : List (Ky × Th)), (∀ p ∈ acc, OkP p) → (∀ k w, SI.pr k w ∈ st → OkP (k, w)) → post (stretchP f lo hi st acc) fun l => ∀ p ∈ l, OkP p
  | 0, _, _, _, _ => trivial
  | _ + 1, [], _, h, _ => h
  | f + 1, .pr k w :: r, acc, h, hs => by
    refine post_stretch lo hi f r (acc ++ [(k, w)]) (fun p hp => ?_) (fun k' w' hm => hs k' w' (List.mem_cons_of_mem _ hm))
    rcases List.mem_append.mp hp with hp | hp
    · exact h p hp
    · rw [List.mem_singleton.mp hp]
      exact hs k w List.mem_cons_self
  | f + 1, .at_ root c :: r, acc, h, hs => by
    have hr : ∀ k w, SI.pr k w ∈ r → OkP (k, w) := fun k w hm => hs k w (List.mem_cons_of_mem _ hm)
    refine post_if (post_stretch lo hi f r acc h hr) (post_bind _ _ (post_beneath root c) fun d hd => post_bind _ _ (post_true _) fun _ _ => post_stretch lo hi f _ acc h fun k w hm => ?_)
    unfold pushed at hm
    rcases List.mem_append.mp hm with hm | hm
    · split at hm
      · simp at hm
      · cases hm
    rcases List.mem_append.mp hm with hm | hm
    · split at hm
      · simp at hm
        rw [hm.1, hm.2]
        exact nd_parts hd
      · cases hm
    rcases List.mem_append.mp hm with hm | hm
    · split at hm
      · simp at hm
      · cases hm
    · exact hr k w hm
theorem post_nth : ∀ (f : Nat) (root number c : Int), post (nthP f root number c) fun o => ∀ p, o = some p → OkP p
  | 0, _, _, _ => trivial
  | f + 1, root, number, c => post_if (fun p h => (nomatch h)) (post_bind _ _ (post_beneath root c) fun d hd => post_bind _ _ (post_true _) fun m _ =>
      post_if (fun p h => by cases h; exact nd_parts hd) (post_if (post_nth f _ _ _) (post_nth f _ _ _)))
theorem flat_list {l : List Th} (h : ∀ t ∈ l, t.within 5 = true) : Flat (.list (Th.dataL l)) := by
  refine ⟨?_, ?_⟩
  · rw [PyData.canLay0]
    exact layL_of 5 l (withinL_of h)
  · rw [PyData.depth]
    exact Nat.le_trans (Nat.succ_le_succ (depthL_of 5 l (withinL_of h))) (by decide)
theorem flat_prs {l : List (Ky × Th)} (h : ∀ p ∈ l, OkP p) : Flat (.list (l.map pairD)) := by
  rw [← prs_data]
  refine flat_list fun t ht => ?_
  obtain ⟨p, hp, rfl⟩ := List.mem_map.mp ht
  exact pr_within (h p hp)
theorem flat_int (i : Int) : Flat (.int i) := by
  unfold Flat
  simp [PyData.canLay0, PyData.depth]
theorem post_aq (root : Int) (a : Aq) : post (a.prog root) Flat := by
  cases a with
  | find k => exact post_bind _ _ (post_found _ _ _ _) fun t h => flat_th (by decide) h
  | stretch lo hi =>
    refine post_bind _ _ (P := fun l => ∀ p ∈ l, OkP p) ?_ fun l h => flat_prs h
    exact post_if (fun p h => nomatch h) (post_stretch lo hi _ _ _ (fun p h => nomatch h) (fun k w h => by simp at h))
  | count lo hi => exact post_bind _ _ (post_true _) fun n _ => flat_int n
  | nth n =>
    refine post_bind _ _ (P := fun o => ∀ p, o = some p → OkP p) (post_if (fun p h => nomatch h) (post_nth _ _ _ _)) fun o h => ?_
    cases o with
    | none =>
      show Flat (.none)
      unfold Flat
      simp [PyData.canLay0, PyData.depth]
    | some p =>
      show Flat (pairD p)
      rw [← pr_data]
      exact flat_th (by decide) (pr_within (h p rfl))
  | put k w => exact post_bind _ _ (post_true _) fun n _ => flat_int n
  | cut k => exact post_bind _ _ (post_true _) fun n _ => flat_int n
theorem post_also (root : Int) : ∀ (l : List Aq) (acc : List PyData), (∀ d ∈ acc, Flat d) → post (alsoP root l acc) fun ds => ∀ d ∈ ds, Flat d
  | [], acc, h => h
  | a :: r, acc, h => post_bind _ _ (post_aq root a) fun d hd => post_also root r _ fun x hx => by
      rcases List.mem_append.mp hx with hx | hx
      · exact h x hx
      · rw [List.mem_singleton.mp hx]; exact hd
theorem canAll {ds : List PyData} (h : ∀ d ∈ ds, Flat d) : PyData.canLayAll0 ds = true ∧ PyData.depthAll ds ≤ 10 := by
  induction ds with
  | nil => simp [PyData.canLayAll0, PyData.depthAll]
  | cons d r ih =>
    have h1 := h d List.mem_cons_self
    have h2 := ih fun x hx => h x (List.mem_cons_of_mem _ hx)
    refine ⟨?_, ?_⟩
    · rw [PyData.canLayAll0, h1.1, h2.1]; rfl
    · rw [PyData.depthAll]
      exact Nat.max_le.mpr ⟨h1.2, h2.2⟩
theorem shaped_flat {d : PyData} (h : Flat d) : SeqAt.shaped d = true := by
  show (d.canLay0 && decide (d.depth ≤ 64)) = true
  rw [h.1, decide_eq_true (Nat.le_trans h.2 (by decide))]
  rfl
theorem post_ak (root : Int) (a : Ak) : post (a.prog root) fun d => SeqAt.shaped d = true := by
  have mono : ∀ {p : Prog PyData}, post p Flat → post p fun d => SeqAt.shaped d = true := by
    intro p
    induction p with
    | ret a => exact fun h => shaped_flat h
    | bad => exact fun h => h
    | rd n k ih => exact fun h t => ih t (h t)
    | ly t k ih => exact fun h n => ih n (h n)
  cases a with
  | one a => exact mono (post_aq root a)
  | also_ l =>
    refine post_bind _ _ (post_also root l [] (fun d h => nomatch h)) fun ds h => ?_
    obtain ⟨h1, h2⟩ := canAll h
    show (PyData.canLay0 (.list ds) && decide (PyData.depth (.list ds) ≤ 64)) = true
    rw [PyData.canLay0, PyData.depth, h1, decide_eq_true (by omega)]
    rfl

/-! ### the law's numbers -/
def big (tw : Int) : Int := if tw = 0 then 251530379464423 else -1285000000000000000
def kTxt (i j : Int) : Str := Txt.mul "k" (1 + i) ++ ⟨#[if j = 0 then 97 else 98]⟩
def lawKey (n tw : Int) : Ky := if n % 5 = 0 then .int (big tw) else if n % 5 = 1 then .str (kTxt (n / 5 % 3) (n / 15 % 2)) else .int (n / 5 % 14 - 3)
def wTxt (j : Int) : Str := ("w" : Str) ++ ⟨#[if j = 0 then 99 else 100]⟩
def lawWorth (n tw : Int) : Th := if n % 4 = 0 then .int (big tw) else if n % 4 = 1 then .tup [.int (n / 4 % 9), .int (big tw), .str "x"] else if n % 4 = 2 then .str (wTxt (n / 4 % 2)) else .int (n / 4 % 50)
def mayK (i : Int) (k : Ky) : Option Ky := if i = 0 then none else some k
def lawAq (n tw : Int) : Aq :=
  if n % 7 = 0 then .find (lawKey (n / 7) tw)
  else if n % 7 = 1 then .stretch (mayK (n / 7 % 2) (lawKey (n / 7) tw)) (mayK (n / 14 % 2) (lawKey (n / 98) tw))
  else if n % 7 = 2 then .count (mayK (n / 7 % 2) (lawKey (n / 7) tw)) (mayK (n / 14 % 2) (lawKey (n / 98) tw))
  else if n % 7 = 3 then .nth (n / 7 % 12 - 2)
  else if n % 7 = 4 then .put (lawKey (n / 7) tw) (lawWorth (n / 98) tw)
  else .cut (lawKey (n / 7) tw)
def lawAk (n tw : Int) : Ak := if n % 7 = 6 then .also_ [lawAq (n / 7 / 7 * 7 + n / 7 % 6) tw, lawAq (n / 98 / 7 * 7 + n / 98 % 6) tw] else .one (lawAq n tw)
theorem two_cases (n m : Int) (h : m = 2) : n % m = 0 ∨ n % m = 1 := by subst h; omega
theorem three_cases (n : Int) : n % 3 = 0 ∨ n % 3 = 1 ∨ n % 3 = 2 := by omega
theorem big_num (tw : Int) : -mostNum ≤ big tw ∧ big tw ≤ mostNum := by
  unfold big
  split
  · exact ⟨by decide, by decide⟩
  · exact ⟨by decide, by decide⟩
theorem kTxt_ok (n m : Int) : okStr (kTxt (n % 3) (m % 2)) = true := by
  rcases three_cases n with e | e | e <;> rcases two_cases m 2 rfl with f | f <;> rw [e, f] <;> decide +kernel
theorem wTxt_ok (m : Int) : okStr (wTxt (m % 2)) = true := by
  rcases two_cases m 2 rfl with f | f <;> rw [f] <;> decide +kernel
theorem lawKey_ok (n tw : Int) : (lawKey n tw).okK = true := by
  unfold lawKey Ky.okK
  have e2 : mostNum = 1000000000000000000000000000000 := rfl
  split
  · have := big_num tw
    simp [Ky.th, Th.within]
    omega
  split
  · rw [Ky.th, Th.within]
    exact kTxt_ok _ _
  · simp [Ky.th, Th.within]
    omega
theorem lawWorth_ok (n tw : Int) : lawWorth n tw ≠ .non ∧ (lawWorth n tw).fitW = true := by
  unfold lawWorth
  have e2 : mostNum = 1000000000000000000000000000000 := rfl
  have hb := big_num tw
  split
  · refine ⟨by simp, fitW_iff.mpr ⟨?_, by simp [Th.codes]⟩⟩
    simp [Th.within]
    exact hb
  split
  · refine ⟨by simp, fitW_iff.mpr ⟨?_, ?_⟩⟩
    · have hx : okStr "x" = true := by decide +kernel
      simp [Th.within, Th.withinL, hx]
      refine ⟨⟨?_, ?_⟩, hb⟩
      · omega
      · omega
    · have hx : (textCodes ("x" : Str).cps.toList).length = 1 := by decide +kernel
      simp [Th.codes, Th.codesL, hx]
  split
  · refine ⟨by simp, fitW_iff.mpr ⟨?_, ?_⟩⟩
    · rw [Th.within]
      exact wTxt_ok _
    · have h20 := okK_len (k := .str (wTxt (n / 4 % 2))) (by
        unfold Ky.okK
        rw [Ky.th, Th.within]
        exact wTxt_ok _)
      rw [Ky.th] at h20
      omega
  · refine ⟨by simp, fitW_iff.mpr ⟨?_, by simp [Th.codes]⟩⟩
    simp [Th.within]
    omega
theorem mayK_ok {i : Int} {k : Ky} (h : k.okK = true) : ∀ a, mayK i k = some a → a.okK = true := by
  intro a e
  unfold mayK at e
  split at e
  · cases e
  · cases e; exact h
theorem lawAq_ok (n tw : Int) : (lawAq n tw).okA := by
  unfold lawAq
  split
  · exact lawKey_ok _ _
  split
  · exact ⟨mayK_ok (lawKey_ok _ _), mayK_ok (lawKey_ok _ _)⟩
  split
  · exact ⟨mayK_ok (lawKey_ok _ _), mayK_ok (lawKey_ok _ _)⟩
  split
  · trivial
  split
  · exact ⟨lawKey_ok _ _, lawWorth_ok _ _⟩
  · exact lawKey_ok _ _
theorem lawAk_ok (n tw : Int) : (lawAk n tw).okA := by
  unfold lawAk
  split
  · refine ⟨by simp, fun a h => ?_⟩
    simp only [List.mem_cons, List.not_mem_nil, or_false] at h
    rcases h with rfl | rfl
    · exact lawAq_ok _ _
    · exact lawAq_ok _ _
  · exact lawAq_ok _ _
end PV
set_option Elab.async false
set_option linter.all false
set_option maxRecDepth 100000
set_option maxHeartbeats 4000000
/-! The law's small defs: cells, numbers, keys, worths. -/
namespace PV
open PySem PySem.Spec PyProof.Rows L2
/-- a text times a number -/
theorem op_mulS {X : Cx} : OpR X (binaryOp .Mult) (fun x y H Q => ∃ z i, x = .str z ∧ y = .int i ∧ MulOk z i ∧ Q (.str (Txt.mul z i)) H) := by
  intro pins s σ H x y v u Q I rx ry h
  obtain ⟨z, i, rfl, rfl, ok, q⟩ := h
  obtain ⟨t, rfl⟩ := rx
  obtain ⟨t2, rfl⟩ := ry
  exact SB.mul ok fun t' k => ⟨.str _, H, I.kept (t' := k) (fun _ _ e => e), ⟨_, rfl⟩, q⟩
def spCellAt (K : Frag) : Sp := fun vs H Q _ => ∃ (a : Addr) (ns : List Int) (k : Nat), vs = [.ref a, .int k] ∧ SqL K H a (ns.map V.int) ∧ ∀ c : Int, Q (.int c) H
def spTurned : Sp := fun vs H Q _ => ∃ cell : Int, vs = [.int cell, .int 42] ∧ ∀ (H' : Hp) p (ns : List Int), Same H H' → H p = none → ns.length = 42 → H' p = some (.lst (ns.map V.int)) → Q (.ref p) H'
def spKey : Sp := fun vs H Q _ => ∃ n tw : Int, vs = [.int n, .int tw] ∧ (tw = 0 ∨ tw = 1) ∧ ∀ H', Same H H' → Q (kyV (lawKey n tw)) H'
def spWorth : Sp := fun vs H Q _ => ∃ n tw : Int, vs = [.int n, .int tw] ∧ (tw = 0 ∨ tw = 1) ∧ ∀ H' u, Same H H' → ThA H' u (lawWorth n tw) → Q u H'
def spBefore : Sp := fun vs H Q _ => ∃ a b : Ky, vs = [kyV a, kyV b] ∧ Q (.bl (ahead a b)) H
theorem pick_big {tw : Int} (h : tw = 0 ∨ tw = 1) : atI [V.int 251530379464423, V.int (-1285000000000000000)] tw = some (.int (big tw)) := by
  rcases h with rfl | rfl <;> rfl
theorem mod_two {m : Int} : m % 2 = 0 ∨ m % 2 = 1 := by omega
theorem mulOk3 {r : Int} (h : r = 0 ∨ r = 1 ∨ r = 2) : MulOk "k" (1 + r) ∧ (Txt.mul "k" (1 + r)).length + 1 ≤ sizeLine := by
  rcases h with rfl | rfl | rfl
  · exact ⟨⟨by decide +kernel, by decide +kernel, by decide +kernel⟩, by decide +kernel⟩
  · exact ⟨⟨by decide +kernel, by decide +kernel, by decide +kernel⟩, by decide +kernel⟩
  · exact ⟨⟨by decide +kernel, by decide +kernel, by decide +kernel⟩, by decide +kernel⟩
theorem pick_sign {a b : Nat} {z : Str} {j : Int} (hz : z.cps.toList = [a, b]) (h : j = 0 ∨ j = 1) : atI z.cps.toList j = some (if j = 0 then a else b) := by
  rw [hz]
  rcases h with rfl | rfl <;> rfl
section
variable {P : Program} {w : World} {K : Frag} {mg : Str → Option Value} {base : Heap}
theorem sc_lca : FnScope ["script", "k"] ["script", "k"] (defScope s_law_cell_at) := ⟨rfl, rfl, rfl, by decide +kernel, rfl, by decide +kernel, by decide +kernel⟩
theorem sc_ltu : FnScope ["cell", "many", "numbers", "rest", "mixed", "k"] ["cell", "many"] (defScope s_law_turned) := ⟨rfl, rfl, rfl, by decide +kernel, rfl, by decide +kernel, by decide +kernel⟩
theorem sc_lky : FnScope ["number", "twin"] ["number", "twin"] (defScope s_law_key) := ⟨rfl, rfl, rfl, by decide +kernel, rfl, by decide +kernel, by decide +kernel⟩
theorem sc_lwo : FnScope ["number", "twin"] ["number", "twin"] (defScope s_law_worth) := ⟨rfl, rfl, rfl, by decide +kernel, rfl, by decide +kernel, by decide +kernel⟩
theorem sc_lbe : FnScope ["one", "other"] ["one", "other"] (defScope s_law_before) := ⟨rfl, rfl, rfl, by decide +kernel, rfl, by decide +kernel, by decide +kernel⟩
theorem c_law_cell_at (T : Txt K mg) : Cal P w K mg base CX0 1 "_law_cell_at" ["script", "k"] (spCellAt K) := by
  refine T.d_law_cell_at.cal (fun f fd F => F.ok sc_lca (fun vs H Q E h => ?_) (fun cdv A outer s H vs Q E hr h => ?_)) (fun _ _ _ _ _ _ us hl => match us, hl with | [_, _], _ => rfl)
  · obtain ⟨_, _, _, rfl, _⟩ := h
    rfl
  · obtain ⟨a, ns, k, rfl, ha, q⟩ := h
    refine ⟨_, (pss_cons (ps_if (pt_cmpR op_lt (pv 1) (pe_callB call_len_seq (by rfl) T.b_len PySem.boot_len (pa_cons (pv 0) pa_nil)) (nomark _)) (pss_one (ps_ret (pe_ix ix_list (pv 0) (pv 1) (fun _ _ => rfl)))) pss_nil) <| pss_one (ps_ret pe_int)), ?_⟩
    refine ⟨_, rfl, _, rfl, a, _, rfl, .inl ha, _, _, rfl, rfl, _, rfl, ?_⟩
    by_cases hk : (k : Int) < ((ns.map V.int).length : Nat)
    · have hk2 : k < ns.length := by
        rw [List.length_map] at hk
        omega
      exact eqB (decide_eq_true hk) ⟨_, rfl, _, rfl, a, _, _, .int ns[k], rfl, rfl, ha, atI_nat (by rw [List.getElem?_map, List.getElem?_eq_getElem hk2]; rfl), q _⟩
    · exact neB (decide_eq_false hk) (q 0)
theorem c_law_turned (T : Txt K mg) : Cal P w K mg base CX0 1 "_law_turned" ["cell", "many"] spTurned := by
  refine T.d_law_turned.cal (fun f fd F => F.ok sc_ltu (fun vs H Q E h => ?_) (fun cdv A outer s H vs Q E hr h => ?_)) (fun _ _ _ _ _ _ us hl => match us, hl with | [_, _], _ => rfl)
  · obtain ⟨_, rfl, _⟩ := h
    rfl
  · obtain ⟨cell, rfl, q⟩ := h
    refine ⟨_, (pss_cons (ps_set (i := 2) sc_ltu.nd rfl (.inl rfl) (pe_lst pa_nil)) <| pss_cons (ps_set (i := 3) sc_ltu.nd rfl (.inl rfl) (pv 0)) <| pss_cons (ps_set (i := 4) sc_ltu.nd rfl (.inl rfl) (pe_op op_mod (pv 0) pe_int)) <| pss_cons (ps_for PassesOwn.never rfl (pi_range1 rfl T.b_range (pa_cons (pv 1) pa_nil)) (pg_name (i := 5) sc_ltu.nd rfl (.inl rfl)) (pss_one (ps_if (pt_cmpR op_eq (pe_op op_mod (pv 0) pe_int) pe_int (nomark _)) (pss_cons (ps_expr (pe_bm PySem.F.plainAttrs_list PySem.F.slot_list_append PySem.F.type_list_append mt_append (pv 2) (pa_cons (pe_op op_mod (pe_op op_fdiv (pv 3) pe_int) pe_int) pa_nil))) <| pss_one (ps_set (i := 3) sc_ltu.nd rfl (.inl rfl) (pe_op op_fdiv (pv 3) pe_int))) (pss_cons (ps_set (i := 4) sc_ltu.nd rfl (.inl rfl) (pe_op op_mod (pe_op op_add (pe_op op_add (pe_op op_mul (pv 4) (pv 4)) (pe_op op_mul pe_int (pv 5))) pe_int) pe_int)) <| pss_one (ps_expr (pe_bm PySem.F.plainAttrs_list PySem.F.slot_list_append PySem.F.type_list_append mt_append (pv 2) (pa_cons (pe_op op_fdiv (pv 4) pe_int) pa_nil))))))) <| pss_one (ps_ret (pv 2))), ?_⟩
    refine ⟨Nat.zero_le _, fun l hl => ?_⟩
    refine ⟨_, rfl, _, rfl, _, _, rfl, rfl, (by show (0 : Int) < 2305843009213693951; decide), ?_⟩
    refine ⟨_, rfl, 42, rfl, by decide, by decide, ?_⟩
    refine for_it (walk_range (lo := 0) (n := 42)) (fun i σ Hc => ∃ (rest mixed : Int) (b : Option V) (ns : List Int), σ = [some (.int cell), some (.int 42), some (.ref l), some (.int rest), some (.int mixed), b] ∧ Same H Hc ∧ Hc l = some (.lst (ns.map V.int)) ∧ ns.length = i ∧ (0 ≤ mixed ∧ mixed < 2305843009213693951))
      ⟨cell, cell % 2305843009213693951, none, [], rfl, same_upd (Same.refl _) hl, upd_same, rfl, Int.emod_nonneg _ (by decide), Int.emod_lt_of_pos _ (by decide)⟩ (fun _ _ _ _ _ => trivial) ?_ ?_
    · rintro i x σ H1 H2 hi ⟨rest, mixed, b, ns, rfl, hs, hL, hn, hm⟩ ⟨rfl, rfl⟩
      have sz : (ns.map V.int).length < sizeLine := by
        rw [List.length_map]
        exact Nat.lt_of_le_of_lt (show ns.length ≤ 42 by omega) (by decide)
      refine ⟨_, rfl, _, _, rfl, rfl, (by show (0 : Int) < 2; decide), rfl, _, rfl, ?_⟩
      have fin : ∀ (v : Int), Same H (L2.upd H2 l (.lst (ns.map V.int ++ [.int v]))) ∧ (L2.upd H2 l (.lst (ns.map V.int ++ [.int v]))) l = some (.lst ((ns ++ [v]).map V.int)) ∧ (ns ++ [v]).length = i + 1 := by
        intro v
        refine ⟨same_upd hs hl, ?_, by rw [List.length_append, hn]; rfl⟩
        rw [upd_same, List.map_append]
        rfl
      have split_ : decide (V.int (cell % 2) = V.int 0) = true ∨ decide (V.int (cell % 2) = V.int 0) = false := by
        cases decide (V.int (cell % 2) = V.int 0)
        · exact .inr rfl
        · exact .inl rfl
      rcases split_ with hb | hb
      · refine eqB hb ⟨_, rfl, .inl ⟨rfl, _, SqL.of hL⟩, _, rfl, _, _, rfl, rfl, ⟨by decide, by decide⟩, _, _, rfl, rfl, (by show (0 : Int) < 1000; decide), l, _, _, rfl, rfl, hL, sz, ?_⟩
        refine ⟨_, rfl, _, _, rfl, rfl, ⟨by decide, by decide⟩, ?_⟩
        obtain ⟨f1, f2, f3⟩ := fin (rest / 2 % 1000)
        exact ⟨_, mixed, _, ns ++ [rest / 2 % 1000], rfl, f1, f2, f3, hm⟩
      · refine neB hb ⟨_, rfl, _, rfl, _, _, rfl, rfl, .inl ⟨by omega, by omega⟩, _, rfl, _, _, rfl, rfl, .inl ⟨by decide, by decide⟩, _, _, rfl, rfl, _, _, rfl, rfl, _, _, rfl, rfl, (by show (0 : Int) < 2305843009213693951; decide), ?_⟩
        refine ⟨_, rfl, .inl ⟨rfl, _, SqL.of hL⟩, _, rfl, _, _, rfl, rfl, ⟨by decide, by decide⟩, l, _, _, rfl, rfl, hL, sz, ?_⟩
        obtain ⟨f1, f2, f3⟩ := fin ((mixed * mixed + 1000003 * (0 + (i : Nat)) + 77) % 2305843009213693951 / 1009)
        exact ⟨rest, _, _, ns ++ [(mixed * mixed + 1000003 * (0 + (i : Nat)) + 77) % 2305843009213693951 / 1009], rfl, f1, f2, f3, Int.emod_nonneg _ (by decide), Int.emod_lt_of_pos _ (by decide)⟩
    · rintro σ H1 ⟨rest, mixed, b, ns, rfl, hs, hL, hn, hm⟩
      exact ⟨_, rfl, q H1 l ns hs hl hn hL⟩
theorem c_law_key (T : Txt K mg) : Cal P w K mg base CX0 1 "_law_key" ["number", "twin"] spKey := by
  refine T.d_law_key.cal (fun f fd F => F.ok sc_lky (fun vs H Q E h => ?_) (fun cdv A outer s H vs Q E hr h => ?_)) (fun _ _ _ _ _ _ us hl => match us, hl with | [_, _], _ => rfl)
  · obtain ⟨_, _, rfl, _⟩ := h
    rfl
  · obtain ⟨n, tw, rfl, htw, q⟩ := h
    refine ⟨_, (pss_cons (ps_if (pt_cmpR op_eq (pe_op op_mod (pv 0) pe_int) pe_int (nomark _)) (pss_one (ps_ret (pe_ix ix_list (pe_lst (pa_cons pe_int (pa_cons (pe_un un_neg pe_int) pa_nil))) (pv 1) (fun _ _ => rfl)))) pss_nil) <| pss_cons (ps_if (pt_cmpR op_eq (pe_op op_mod (pv 0) pe_int) pe_int (nomark _)) (pss_one (ps_ret (pe_op op_add_str (pe_op op_mulS pe_str (pe_op op_add pe_int (pe_op op_mod (pe_op op_fdiv (pv 0) pe_int) pe_int))) (pe_ix ix_str pe_str (pe_op op_mod (pe_op op_fdiv (pv 0) pe_int) pe_int) (fun _ _ => rfl))))) pss_nil) <| pss_one (ps_ret (pe_op op_sub (pe_op op_mod (pe_op op_fdiv (pv 0) pe_int) pe_int) pe_int))), ?_⟩
    refine ⟨_, rfl, _, _, rfl, rfl, (by show (0 : Int) < 5; decide), rfl, _, rfl, ?_⟩
    rw [dec_int]
    unfold lawKey at q
    by_cases h0 : n % 5 = 0
    · rw [if_pos h0] at q
      refine eqB (by simp [h0]) ⟨_, rfl, (by show 2 ≤ sizeLine; decide), fun p hp => ⟨_, rfl, p, _, tw, _, rfl, rfl, SqL.of upd_same, pick_big htw, q _ (same_upd (Same.refl _) hp)⟩⟩
    rw [if_neg h0] at q
    refine neB (by simp [h0]) ⟨_, rfl, _, _, rfl, rfl, (by show (0 : Int) < 5; decide), rfl, _, rfl, ?_⟩
    rw [dec_int]
    by_cases h1 : n % 5 = 1
    · rw [if_pos h1] at q
      obtain ⟨m1, m2⟩ := mulOk3 (three_cases (n / 5))
      refine eqB (by simp [h1]) ⟨_, rfl, _, _, rfl, rfl, ⟨by decide, by decide⟩, _, _, rfl, rfl, (by show (0 : Int) < 3; decide), _, _, rfl, rfl, _, _, rfl, rfl, m1, ?_⟩
      refine ⟨_, rfl, _, _, rfl, rfl, ⟨by decide, by decide⟩, _, _, rfl, rfl, (by show (0 : Int) < 2; decide), _, _, _, rfl, rfl, (by decide +kernel), pick_sign (a := 97) (b := 98) (by decide +kernel) mod_two, _, _, rfl, rfl, m2, ?_⟩
      exact q H (Same.refl _)
    · rw [if_neg h1] at q
      exact neB (by simp [h1]) ⟨_, rfl, _, _, rfl, rfl, ⟨by decide, by decide⟩, _, _, rfl, rfl, (by show (0 : Int) < 14; decide), _, _, rfl, rfl, q H (Same.refl _)⟩
theorem c_law_worth (T : Txt K mg) : Cal P w K mg base CX0 1 "_law_worth" ["number", "twin"] spWorth := by
  refine T.d_law_worth.cal (fun f fd F => F.ok sc_lwo (fun vs H Q E h => ?_) (fun cdv A outer s H vs Q E hr h => ?_)) (fun _ _ _ _ _ _ us hl => match us, hl with | [_, _], _ => rfl)
  · obtain ⟨_, _, rfl, _⟩ := h
    rfl
  · obtain ⟨n, tw, rfl, htw, q⟩ := h
    refine ⟨_, (pss_cons (ps_if (pt_cmpR op_eq (pe_op op_mod (pv 0) pe_int) pe_int (nomark _)) (pss_one (ps_ret (pe_ix ix_list (pe_lst (pa_cons pe_int (pa_cons (pe_un un_neg pe_int) pa_nil))) (pv 1) (fun _ _ => rfl)))) pss_nil) <| pss_cons (ps_if (pt_cmpR op_eq (pe_op op_mod (pv 0) pe_int) pe_int (nomark _)) (pss_one (ps_ret (pe_tup (pa_cons (pe_op op_mod (pe_op op_fdiv (pv 0) pe_int) pe_int) (pa_cons (pe_ix ix_list (pe_lst (pa_cons pe_int (pa_cons (pe_un un_neg pe_int) pa_nil))) (pv 1) (fun _ _ => rfl)) (pa_cons pe_str pa_nil)))))) pss_nil) <| pss_cons (ps_if (pt_cmpR op_eq (pe_op op_mod (pv 0) pe_int) pe_int (nomark _)) (pss_one (ps_ret (pe_op op_add_str pe_str (pe_ix ix_str pe_str (pe_op op_mod (pe_op op_fdiv (pv 0) pe_int) pe_int) (fun _ _ => rfl))))) pss_nil) <| pss_one (ps_ret (pe_op op_mod (pe_op op_fdiv (pv 0) pe_int) pe_int))), ?_⟩
    refine ⟨_, rfl, _, _, rfl, rfl, (by show (0 : Int) < 4; decide), rfl, _, rfl, ?_⟩
    rw [dec_int]
    unfold lawWorth at q
    by_cases h0 : n % 4 = 0
    · rw [if_pos h0] at q
      refine eqB (by simp [h0]) ⟨_, rfl, (by show 2 ≤ sizeLine; decide), fun p hp => ⟨_, rfl, p, _, tw, _, rfl, rfl, SqL.of upd_same, pick_big htw, q _ _ (same_upd (Same.refl _) hp) (.int _)⟩⟩
    rw [if_neg h0] at q
    refine neB (by simp [h0]) ⟨_, rfl, _, _, rfl, rfl, (by show (0 : Int) < 4; decide), rfl, _, rfl, ?_⟩
    rw [dec_int]
    by_cases h1 : n % 4 = 1
    · rw [if_pos h1] at q
      refine eqB (by simp [h1]) ⟨_, rfl, _, _, rfl, rfl, ⟨by decide, by decide⟩, _, _, rfl, rfl, (by show (0 : Int) < 9; decide), _, rfl, (by show 2 ≤ sizeLine; decide), fun p hp => ⟨_, rfl, p, _, tw, _, rfl, rfl, SqL.of upd_same, pick_big htw, (by show 3 ≤ sizeLine; decide), fun p2 hp2 => ?_⟩⟩
      have hp2' : H p2 = none := by
        cases z : H p2 with
        | none => rfl
        | some o => rw [upd_ne (ne_of_none z hp), z] at hp2; cases hp2
      exact q _ _ (same_upd (same_upd (Same.refl _) hp) hp2') (.tup upd_same (.cons (.int _) (.cons (.int _) (.cons (.str _) .nil))))
    rw [if_neg h1] at q
    refine neB (by simp [h1]) ⟨_, rfl, _, _, rfl, rfl, (by show (0 : Int) < 4; decide), rfl, _, rfl, ?_⟩
    rw [dec_int]
    by_cases h2 : n % 4 = 2
    · rw [if_pos h2] at q
      refine eqB (by simp [h2]) ⟨_, rfl, _, _, rfl, rfl, ⟨by decide, by decide⟩, _, _, rfl, rfl, (by show (0 : Int) < 2; decide), _, _, _, rfl, rfl, (by decide +kernel), pick_sign (a := 99) (b := 100) (by decide +kernel) mod_two, _, _, rfl, rfl, ?_, q H _ (Same.refl _) (.str _)⟩
      show (1 : Nat) + 1 ≤ sizeLine
      decide
    · rw [if_neg h2] at q
      exact neB (by simp [h2]) ⟨_, rfl, _, _, rfl, rfl, ⟨by decide, by decide⟩, _, _, rfl, rfl, (by show (0 : Int) < 50; decide), q H _ (Same.refl _) (.int _)⟩
theorem c_law_before (T : Txt K mg) : Cal P w K mg base CX0 1 "_law_before" ["one", "other"] spBefore := by
  refine T.d_law_before.cal (fun f fd F => F.ok sc_lbe (fun vs H Q E h => ?_) (fun cdv A outer s H vs Q E hr h => ?_)) (fun _ _ _ _ _ _ us hl => match us, hl with | [_, _], _ => rfl)
  · obtain ⟨_, _, rfl, _⟩ := h
    rfl
  · obtain ⟨a, b, rfl, q⟩ := h
    refine ⟨_, (pss_cons (ps_if (pt_cmpR op_eq (pe_isi .str (pv 0) T.b_isinstance T.b_str bt_str) (pe_isi .str (pv 1) T.b_isinstance T.b_str bt_str) (nomark _)) (pss_one (ps_ret (pe_cmpR op_ltK (pv 0) (pv 1) (nomark _)))) pss_nil) <| pss_one (ps_ret (pe_isi .int (pv 0) T.b_isinstance T.b_int bt_int))), ?_⟩
    refine ⟨_, rfl, _, a.th, rfl, ta_kyV a, _, rfl, _, b.th, rfl, ta_kyV b, rfl, _, rfl, ?_⟩
    cases a with
    | int i =>
      cases b with
      | int j => exact iteT ⟨_, rfl, _, rfl, .int i, .int j, rfl, rfl, rfl, q⟩
      | str z => exact iteF ⟨_, rfl, _, .int i, rfl, .int i, q⟩
    | str z =>
      cases b with
      | int j => exact iteF ⟨_, rfl, _, .str z, rfl, .str z, q⟩
      | str y => exact iteT ⟨_, rfl, _, rfl, .str z, .str y, rfl, rfl, rfl, q⟩
end
end PV
set_option Elab.async false
set_option linter.all false
set_option maxRecDepth 100000
set_option maxHeartbeats 4000000
/-! The law's dict: its keys in order, its pairs within bounds. -/
namespace PV
open PySem PySem.Spec PyProof.Rows L2
def kK : Ky → Key
  | .int i => .inl i
  | .str s => .inr s
theorem kV_kK (k : Ky) : kV (kK k) = kyV k := by cases k <;> rfl
theorem kK_inj {a b : Ky} (h : kK a = kK b) : a = b := by
  cases a with
  | int i =>
    cases b with
    | int j => rw [Sum.inl.inj h]
    | str t => cases h
  | str s =>
    cases b with
    | int j => cases h
    | str t => rw [Sum.inr.inj h]
abbrev Mk_ := List (Ky × Th)
def PD (H : Hp) : List (Key × V) → Mk_ → Prop := Paired fun p q => p.1 = kK q.1 ∧ ThA H p.2 q.2
theorem PD.mono {H H' : Hp} (k : TK H H') : ∀ {kvs : List (Key × V)} {m : Mk_}, PD H kvs m → PD H' kvs m
  | _, _, .nil => .nil
  | _, _, .cons h r => .cons ⟨h.1, h.2.mono k⟩ (PD.mono k r)
theorem PD.len {H : Hp} {kvs : List (Key × V)} {m : Mk_} (r : PD H kvs m) : kvs.length = m.length := Paired.length r
theorem PD.val {H : Hp} {n : Ky} : ∀ {kvs : List (Key × V)} {m : Mk_}, PD H kvs m → (valV kvs (kK n) = none ∧ lk m n = none) ∨ ∃ v t, valV kvs (kK n) = some v ∧ lk m n = some t ∧ ThA H v t
  | _, _, .nil => .inl ⟨rfl, rfl⟩
  | _, _, @Paired.cons _ _ _ p q ps qs h r => by
    by_cases e : q.1 = n
    · refine .inr ⟨p.2, q.2, valV_pos (by rw [h.1, e]), ?_, h.2⟩
      rw [lk_cons, if_pos e]
    · have e2 : ¬ p.1 = kK n := fun z => e (kK_inj (h.1.symm.trans z))
      rw [valV_neg e2, lk_cons, if_neg e]
      exact PD.val r
theorem PD.rep {H : Hp} {n : Ky} {v : V} {t : Th} (ha : ThA H v t) : ∀ {kvs : List (Key × V)} {m : Mk_}, PD H kvs m → PD H (kvs.map fun kv => if kv.1 = kK n then (kv.1, v) else kv) (rp m n t)
  | _, _, .nil => .nil
  | _, _, @Paired.cons _ _ _ p q ps qs h r => by
    rw [List.map_cons]
    unfold rp
    refine .cons ?_ (PD.rep ha r)
    by_cases e : q.1 = n
    · rw [if_pos e, if_pos (by rw [h.1, e])]
      exact ⟨h.1, ha⟩
    · rw [if_neg e, if_neg (fun z => e (kK_inj (h.1.symm.trans z)))]
      exact h
theorem PD.put {H : Hp} {n : Ky} {v : V} {t : Th} (ha : ThA H v t) {kvs : List (Key × V)} {m : Mk_} (r : PD H kvs m) : PD H (putK kvs (kK n) v) (pt m n t) := by
  unfold putK pt
  rw [valV_any]
  rcases r.val (n := n) with ⟨e1, e2⟩ | ⟨_, _, e1, e2, _⟩
  · rw [e1, e2, if_neg (by decide), if_neg (by decide)]
    exact Paired.snoc r ⟨rfl, ha⟩
  · rw [e1, e2, Option.isSome_some, Option.isSome_some, if_pos rfl, if_pos rfl]
    exact r.rep ha
theorem PD.drop {H : Hp} {n : Ky} : ∀ {kvs : List (Key × V)} {m : Mk_}, PD H kvs m → PD H (dropK kvs (kK n)) (dp m n)
  | _, _, .nil => .nil
  | _, _, @Paired.cons _ _ _ p q ps qs h r => by
    have ih := PD.drop (n := n) r
    unfold dropK dp at ih ⊢
    by_cases e : q.1 = n
    · rw [List.filter_cons_of_neg (by simp [h.1, e]), List.filter_cons_of_neg (by simp [e])]
      exact ih
    · have e2 : ¬ p.1 = kK n := fun z => e (kK_inj (h.1.symm.trans z))
      rw [List.filter_cons_of_pos (by simp [e2]), List.filter_cons_of_pos (by simp [e])]
      exact .cons h ih
theorem PD.at_ {H : Hp} : ∀ {kvs : List (Key × V)} {m : Mk_} {i : Nat} {k : Key} {v : V}, PD H kvs m → kvs[i]? = some (k, v) → ∃ q, m[i]? = some q ∧ k = kK q.1
  | _, _, i, k, v, .nil, h => by simp at h
  | _, _, 0, k, v, .cons h r, e => by
    simp at e
    rw [e] at h
    exact ⟨_, rfl, h.1⟩
  | _, _, i + 1, k, v, .cons h r, e => by
    simp at e
    obtain ⟨q, h1, h2⟩ := PD.at_ (i := i) r e
    exact ⟨q, by simpa using h1, h2⟩
/-! ### keys of one kind -/
def ksI (ks : List Ky) : List Int := ks.filterMap fun k => match k with
  | .int i => some i
  | .str _ => none
def ksS (ks : List Ky) : List Str := ks.filterMap fun k => match k with
  | .int _ => none
  | .str s => some s
theorem ksI_snoc (ks : List Ky) (k : Ky) : ksI (ks ++ [k]) = ksI ks ++ (match k with | .int i => [i] | .str _ => []) := by
  unfold ksI
  rw [List.filterMap_append]
  cases k <;> rfl
theorem ksS_snoc (ks : List Ky) (k : Ky) : ksS (ks ++ [k]) = ksS ks ++ (match k with | .int _ => [] | .str s => [s]) := by
  unfold ksS
  rw [List.filterMap_append]
  cases k <;> rfl
theorem mem_ksI {ks : List Ky} {i : Int} : i ∈ ksI ks ↔ Ky.int i ∈ ks := by
  unfold ksI
  rw [List.mem_filterMap]
  constructor
  · rintro ⟨k, hk, e⟩
    cases k with
    | int j => cases e; exact hk
    | str s => cases e
  · intro h
    exact ⟨_, h, rfl⟩
theorem mem_ksS {ks : List Ky} {s : Str} : s ∈ ksS ks ↔ Ky.str s ∈ ks := by
  unfold ksS
  rw [List.mem_filterMap]
  constructor
  · rintro ⟨k, hk, e⟩
    cases k with
    | int j => cases e
    | str t => cases e; exact hk
  · intro h
    exact ⟨_, h, rfl⟩
theorem ksI_nodup {ks : List Ky} (h : ks.Nodup) : (ksI ks).Nodup := by
  unfold ksI
  refine List.Pairwise.filterMap _ (fun a a' hne b hb b' hb' e => hne ?_) h
  cases a with
  | str s => cases hb
  | int i =>
    cases a' with
    | str s => cases hb'
    | int j =>
      cases hb
      cases hb'
      rw [e]
theorem ksS_nodup {ks : List Ky} (h : ks.Nodup) : (ksS ks).Nodup := by
  unfold ksS
  refine List.Pairwise.filterMap _ (fun a a' hne b hb b' hb' e => hne ?_) h
  cases a with
  | int s => cases hb
  | str i =>
    cases a' with
    | int s => cases hb'
    | str j =>
      cases hb
      cases hb'
      rw [e]
theorem ksS_len (ks : List Ky) : (ksS ks).length ≤ ks.length := List.length_filterMap_le _ _
theorem ksI_len (ks : List Ky) : (ksI ks).length ≤ ks.length := List.length_filterMap_le _ _
theorem lt_nodupS : ∀ {l : List Str} {p : Str}, risingS p l = true → (p :: l).Nodup → (∀ x ∈ l, p.cps.toList < x.cps.toList) ∧ (l.Pairwise fun a b => a.cps.toList < b.cps.toList)
  | [], p, _, _ => ⟨fun x h => (nomatch h), .nil⟩
  | y :: r, p, h, nd => by
    unfold risingS at h
    rw [Bool.and_eq_true, ltCps_eq] at h
    obtain ⟨n1, n2⟩ := List.nodup_cons.mp nd
    obtain ⟨h1, h2⟩ := lt_nodupS h.2 n2
    have hy : p.cps.toList < y.cps.toList := by
      have q : ¬ y.cps.toList < p.cps.toList := by simpa using h.1
      rcases Decidable.em (p.cps.toList < y.cps.toList) with z | z
      · exact z
      · have e := str_ext (List.le_antisymm (List.not_lt.mp q) (List.not_lt.mp z))
        exact absurd (by rw [e]; exact List.mem_cons_self) n1
    refine ⟨fun x hx => ?_, List.pairwise_cons.mpr ⟨h1, h2⟩⟩
    rcases List.mem_cons.mp hx with rfl | hx
    · exact hy
    · exact List.lt_trans hy (h1 x hx)
theorem sortedS_lt {l : List Str} (h : sortedS l = true) (nd : l.Nodup) : l.Pairwise fun a b => a.cps.toList < b.cps.toList := by
  cases l with
  | nil => exact .nil
  | cons x r =>
    obtain ⟨h1, h2⟩ := lt_nodupS h nd
    exact List.pairwise_cons.mpr ⟨h1, h2⟩
theorem rise_of {ks : List Ky} (nd : ks.Nodup) {is : List Int} {ss : List Str} (h1 : is.Perm (ksI ks)) (h2 : is.Pairwise (· ≤ ·)) (h3 : ss.Perm (ksS ks)) (h4 : sortedS ss = true) :
    Rise (is.map Ky.int ++ ss.map Ky.str) ∧ ∀ k, k ∈ is.map Ky.int ++ ss.map Ky.str ↔ k ∈ ks := by
  have ndi : is.Nodup := h1.nodup_iff.mpr (ksI_nodup nd)
  have nds : ss.Nodup := h3.nodup_iff.mpr (ksS_nodup nd)
  have lti := lt_of_le_nodup is h2 ndi
  have lts := sortedS_lt h4 nds
  refine ⟨?_, fun k => ?_⟩
  · unfold Rise
    rw [List.pairwise_append]
    refine ⟨List.pairwise_map.mpr (lti.imp fun {a b} h => by simp [ahead]; exact h), List.pairwise_map.mpr (lts.imp fun {a b} h => by simp [ahead]; exact h), fun a ha b hb => ?_⟩
    obtain ⟨i, _, rfl⟩ := List.mem_map.mp ha
    obtain ⟨s, _, rfl⟩ := List.mem_map.mp hb
    rfl
  · rw [List.mem_append]
    cases k with
    | int i =>
      constructor
      · rintro (h | h)
        · obtain ⟨j, hj, e⟩ := List.mem_map.mp h
          cases e
          exact mem_ksI.mp (h1.mem_iff.mp hj)
        · obtain ⟨j, _, e⟩ := List.mem_map.mp h
          cases e
      · intro h
        exact .inl (List.mem_map.mpr ⟨i, h1.mem_iff.mpr (mem_ksI.mpr h), rfl⟩)
    | str s =>
      constructor
      · rintro (h | h)
        · obtain ⟨j, _, e⟩ := List.mem_map.mp h
          cases e
        · obtain ⟨j, hj, e⟩ := List.mem_map.mp h
          cases e
          exact mem_ksS.mp (h3.mem_iff.mp hj)
      · intro h
        exact .inr (List.mem_map.mpr ⟨s, h3.mem_iff.mpr (mem_ksS.mpr h), rfl⟩)
/-- unlocked again -/
theorem unlock {H : Hp} {d D : Addr} {u o : HO} {od : Obj} (h : H d = some u) (n : d ≠ D) : L2.upd (L2.upd (L2.upd H d (.frz od u)) D o) d u = L2.upd H D o := by
  funext b
  by_cases e : b = d
  · rw [e, upd_same, upd_ne n, h]
  · rw [upd_ne e]
    by_cases e2 : b = D
    · rw [e2, upd_same, upd_same]
    · rw [upd_ne e2, upd_ne e2, upd_ne e]
def spRising : Sp := fun vs H Q _ => ∃ d kvs m, vs = [.ref d] ∧ H d = some (.dK kvs) ∧ PD H kvs m ∧ (m.map (·.1)).Nodup ∧ m.length ≤ 20 ∧
  ∀ (H' : Hp) p (ks : List Ky), Same H H' → H p = none → H' p = some (.lst (ks.map kyV)) → Rise ks → (∀ k, k ∈ ks ↔ k ∈ m.map (·.1)) → Q (.ref p) H'
section
variable {P : Program} {w : World} {K : Frag} {mg : Str → Option Value} {base : Heap}
theorem sc_lri : FnScope ["keys", "numbers", "key"] ["keys"] (defScope s_law_rising) := ⟨rfl, rfl, rfl, by decide +kernel, rfl, by decide +kernel, by decide +kernel⟩
theorem c_law_rising (T : Txt K mg) : Cal P w K mg base CX0 1 "_law_rising" ["keys"] spRising := by
  refine T.d_law_rising.cal (fun f fd F => F.ok sc_lri (fun vs H Q E h => ?_) (fun cdv A outer s H vs Q E hr h => ?_)) (fun _ _ _ _ _ _ us hl => match us, hl with | [_], _ => rfl)
  · obtain ⟨_, _, _, rfl, _⟩ := h
    rfl
  · obtain ⟨d, kvs, m, rfl, hd, hP, nd, hm, q⟩ := h
    refine ⟨_, (pss_cons (ps_set (i := 1) sc_lri.nd rfl (.inl rfl) (pe_callB cr_sortedI (by rfl) T.b_sorted PyProof.Rows.boot_sorted (pa_cons (pe_lock (pe_lc (te := tVar 2) (own := [("key", 2)]) (g := gName 2) rfl sc_lri.nd (pi_keys (pv 0)) (blkOk_by (own := [("key", 2)]) (N := ["keys", "numbers", "key"]) (sc := defScope s_law_rising) (by decide +kernel)) (fun _ _ _ _ _ => pg_name (i := 2) sc_lri.nd rfl (.inl rfl))
        (tt := tTest (tCB (rIsTh .int) (tCons (tVar 2) (tCons (tC (.ty Tn.int.name)) tNil)))) (fun _ _ _ _ _ => pts_one (pt_val (pe_isi .int (pv 2) T.b_isinstance T.b_int bt_int))) (fun _ _ _ _ _ => pv 2))) pa_nil))) <| pss_one (ps_ret (pe_op op_cat (pv 1) (pe_callB cr_sortedS (by rfl) T.b_sorted PyProof.Rows.boot_sorted (pa_cons (pe_lock (pe_lc (te := tVar 2) (own := [("key", 2)]) (g := gName 2) rfl sc_lri.nd (pi_keys (pv 0)) (blkOk_by (own := [("key", 2)]) (N := ["keys", "numbers", "key"]) (sc := defScope s_law_rising) (by decide +kernel)) (fun _ _ _ _ _ => pg_name (i := 2) sc_lri.nd rfl (.inl rfl))
        (tt := tTest (tCB (rIsTh .str) (tCons (tVar 2) (tCons (tC (.ty Tn.str.name)) tNil)))) (fun _ _ _ _ _ => pts_one (pt_val (pe_isi .str (pv 2) T.b_isinstance T.b_str bt_str))) (fun _ _ _ _ _ => pv 2))) pa_nil))))), ?_⟩
    have hml := hP.len
    have hkl : (m.map (·.1)).length = m.length := List.length_map _
    refine ⟨d, .dK kvs, hd, trivial, fun od => ⟨_, rfl, d, od, rfl, .inl ⟨kvs, upd_same, fun D hD => ?_⟩⟩⟩
    have hdD : d ≠ D := fun z => by rw [← z, upd_same] at hD; cases hD
    have hDH : H D = none := by rw [upd_ne (Ne.symm hdD)] at hD; exact hD
    refine lc_it (walk_keys (kvs := kvs)) (fun i Hc => Hc = L2.upd (L2.upd H d (.frz od (.dK kvs))) D (.lst ((ksI ((m.map (·.1)).take i)).map V.int))) rfl (fun i Hc _ e => by rw [e, upd_ne hdD, upd_same]) ?_ ?_
    · rintro i x H1 H2 hi rfl ⟨rfl, k, v, hk, rfl⟩
      obtain ⟨p, hp, rfl⟩ := hP.at_ hk
      have hp1 : (m.map (·.1))[i]? = some p.1 := by rw [List.getElem?_map, hp]; rfl
      refine ⟨rfl, _, rfl, _, p.1.th, rfl, by rw [kV_kK]; exact ta_kyV p.1, _, rfl, ?_⟩
      rw [take_snoc hp1, ksI_snoc, kV_kK]
      cases hpk : p.1 with
      | int z =>
        refine iteT ⟨_, rfl, _, upd_same, ?_, ?_⟩
        · rw [List.length_map]
          exact Nat.lt_of_le_of_lt (Nat.le_trans (ksI_len _) (List.length_take_le' _ _)) (Nat.lt_of_le_of_lt (show (m.map (·.1)).length ≤ 20 by omega) (by decide))
        · rw [upd_upd, List.map_append]
          rfl
      | str z =>
        refine iteF ?_
        rw [List.append_nil]
    · rintro Hc rfl
      rw [hml, ← hkl, List.take_length]
      refine ⟨by rw [upd_ne hdD, upd_same], ?_⟩
      rw [unlock hd hdD]
      refine ⟨D, _, rfl, SqL.of upd_same, fun is p h1 h2 hp => ?_⟩
      have sm1 := same_upd (o := .lst (is.map V.int)) (same_upd (o := .lst ((ksI (m.map (·.1))).map V.int)) (Same.refl H) hDH) (show H p = none by
        cases z : H p with
        | none => rfl
        | some o => rw [upd_ne (ne_of_none z hDH), z] at hp; cases hp)
      have hpH : H p = none := by
        cases z : H p with
        | none => rfl
        | some o => rw [upd_ne (ne_of_none z hDH), z] at hp; cases hp
      generalize hH1 : L2.upd (L2.upd H D (.lst ((ksI (m.map (·.1))).map V.int))) p (.lst (is.map V.int)) = H1 at sm1 ⊢
      have hL1 : H1 p = some (.lst (is.map V.int)) := by rw [← hH1, upd_same]
      have hd1 := sm1 _ _ hd
      refine ⟨_, rfl, d, .dK kvs, hd1, trivial, fun od2 => ⟨_, rfl, d, od2, rfl, .inl ⟨kvs, upd_same, fun D2 hD2 => ?_⟩⟩⟩
      have hdD2 : d ≠ D2 := fun z => by rw [← z, upd_same] at hD2; cases hD2
      have hDH2 : H1 D2 = none := by rw [upd_ne (Ne.symm hdD2)] at hD2; exact hD2
      refine lc_it (walk_keys (kvs := kvs)) (fun i Hc => Hc = L2.upd (L2.upd H1 d (.frz od2 (.dK kvs))) D2 (.lst ((ksS ((m.map (·.1)).take i)).map V.str))) rfl (fun i Hc _ e => by rw [e, upd_ne hdD2, upd_same]) ?_ ?_
      · rintro i x H2 H3 hi rfl ⟨rfl, k, v, hk, rfl⟩
        obtain ⟨pq, hpq, rfl⟩ := hP.at_ hk
        have hp1 : (m.map (·.1))[i]? = some pq.1 := by rw [List.getElem?_map, hpq]; rfl
        refine ⟨rfl, _, rfl, _, pq.1.th, rfl, by rw [kV_kK]; exact ta_kyV pq.1, _, rfl, ?_⟩
        rw [take_snoc hp1, ksS_snoc, kV_kK]
        cases hpk : pq.1 with
        | str z =>
          refine iteT ⟨_, rfl, _, upd_same, ?_, ?_⟩
          · rw [List.length_map]
            exact Nat.lt_of_le_of_lt (Nat.le_trans (ksS_len _) (List.length_take_le' _ _)) (Nat.lt_of_le_of_lt (show (m.map (·.1)).length ≤ 20 by omega) (by decide))
          · rw [upd_upd, List.map_append]
            rfl
        | int z =>
          refine iteF ?_
          rw [List.append_nil]
      · rintro Hc rfl
        rw [hml, ← hkl, List.take_length]
        refine ⟨by rw [upd_ne hdD2, upd_same], ?_⟩
        rw [unlock hd1 hdD2]
        have l1 := ksS_len (m.map (·.1))
        have l2 := ksI_len (m.map (·.1))
        refine ⟨D2, _, rfl, SqL.of upd_same, by omega, fun ss p2 h3 h4 hp2 => ?_⟩
        have hp2H : H1 p2 = none := by
          cases z : H1 p2 with
          | none => rfl
          | some o => rw [upd_ne (ne_of_none z hDH2), z] at hp2; cases hp2
        have sm2 := same_upd (o := .lst (ss.map V.str)) (same_upd (o := .lst ((ksS (m.map (·.1))).map V.str)) (Same.refl H1) hDH2) hp2H
        have e1 := h1.length_eq
        have e3 := h3.length_eq
        refine ⟨p, p2, _, _, rfl, rfl, sm2 _ _ hL1, upd_same, ?_, fun r hr2 => ?_⟩
        · rw [List.length_map, List.length_map]
          exact Nat.le_trans (show is.length + ss.length ≤ 40 by omega) (by decide)
        · obtain ⟨r1, r2⟩ := rise_of nd h1 h2 h3 h4
          have hrH1 : H1 r = none := by
            cases z : H1 r with
            | none => rfl
            | some o => rw [sm2 _ _ z] at hr2; cases hr2
          have hrH : H r = none := by
            cases z : H r with
            | none => rfl
            | some o => rw [sm1 _ _ z] at hrH1; cases hrH1
          refine q _ r _ (sm1.trans (same_upd sm2 hrH1)) hrH ?_ r1 r2
          rw [upd_same, List.map_append, List.map_map, List.map_map]
          rfl
end
end PV
set_option Elab.async false
set_option linter.all false
set_option maxRecDepth 100000
set_option maxHeartbeats 4000000
/-! The law's dict within bounds, its asks, what a plain dict answers. -/
namespace PV
open PySem PySem.Spec PyProof.Rows L2
theorem none_back {H H' : Hp} (s : Same H H') {a : Addr} (h : H' a = none) : H a = none := by
  cases z : H a with
  | none => rfl
  | some o => rw [s _ _ z] at h; cases h
def pairOf (m : Mk_) (k : Ky) : Ky × Th := (k, (lk m k).getD .non)
def spWithin : Sp := fun vs H Q _ => ∃ d kvs m lo hi, vs = [.ref d, kyO lo, kyO hi] ∧ H d = some (.dK kvs) ∧ PD H kvs m ∧ (m.map (·.1)).Nodup ∧ m.length ≤ 20 ∧
  ∀ (H' : Hp) p us (ks : List Ky), Same H H' → H p = none → H' p = some (.lst us) → Rise ks → (∀ k, k ∈ ks ↔ k ∈ m.map (·.1)) → Paired (PrAt H') us ((ks.filter fun k => isIn lo hi k).map (pairOf m)) → Q (.ref p) H'
def spAsk (K : Frag) (b : Bool) : Sp := fun vs H Q _ => ∃ n tw : Int, vs = [.int n, .int tw] ∧ (tw = 0 ∨ tw = 1) ∧ (b = false → n % 7 ≠ 6) ∧ ∀ H' u, Same H H' → AkAt K H' u (lawAk n tw) → Q u H'
def spPlain (K : Frag) : Sp := fun vs H Q _ => ∃ d kvs m T, ∃ n tw : Int, vs = [.int n, .int tw, .ref d] ∧ (tw = 0 ∨ tw = 1) ∧ H d = some (.dK kvs) ∧ PD H kvs m ∧ m.length ≤ 20 ∧ Tells m T ∧ Good T ∧ n % 7 < 4 ∧
  ∀ H' u e, Same H H' → (lawAk n tw).plain T.toL = some e → Dp K H' u e → Q u H'
theorem pick_may {j : Int} (k : Ky) (h : j = 0 ∨ j = 1) : atI [V.non, kyV k] j = some (kyO (mayK j k)) := by
  rcases h with rfl | rfl <;> rfl
theorem made_same {H : Hp} {x dx : Addr} {o1 : HO} (hx : H x = none) (hd : H dx = none) : Same H (L2.upd (L2.upd H dx (.own x)) x o1) := fun a o z => by
  rw [upd_ne (ne_of_none z hx), upd_ne (ne_of_none z hd)]
  exact z
theorem over_same {H H1 : Hp} {x : Addr} {o : HO} (s : Same H H1) (hx : H x = none) : Same H (L2.upd H1 x o) := fun a u z => by
  rw [upd_ne (ne_of_none z hx)]
  exact s _ _ z
/-- the text's int of a thing of a list -/
theorem rise_nd {ks : List Ky} (h : Rise ks) : ks.Nodup := h.imp fun {a b} q => ahead_ne q
theorem tells_len {m : Mk_} {T : Tr} (t : Tells m T) (g : Good T) : m.length = T.toL.length := by
  have nd2 := srt_nodup g.srt
  have hp : (m.map (·.1)).Perm (T.toL.map (·.1)) := by
    refine (List.perm_ext_iff_of_nodup t.nd nd2).mpr fun k => ?_
    rw [← lk_key, ← lk_key, t.at_]
  have e := hp.length_eq
  rw [List.length_map, List.length_map] at e
  exact e
theorem within_cut {m : Mk_} {T : Tr} (t : Tells m T) (g : Good T) (lo hi : Option Ky) {ks : List Ky} (hr : Rise ks) (hm : ∀ k, k ∈ ks ↔ k ∈ m.map (·.1)) : (ks.filter fun k => isIn lo hi k).map (pairOf m) = cut_ lo hi T.toL := by
  rw [rise_keys t g hr hm]
  exact within_pairs t g lo hi
theorem cut_all (L : List (Ky × Th)) : cut_ none none L = L := by
  unfold cut_
  exact List.filter_eq_self.mpr fun p _ => rfl
section
variable {P : Program} {w : World} {K : Frag} {mg : Str → Option Value} {base : Heap}
theorem sc_lwi : FnScope ["pairs", "low", "high", "some", "key"] ["pairs", "low", "high"] (defScope s_law_within) := ⟨rfl, rfl, rfl, by decide +kernel, rfl, by decide +kernel, by decide +kernel⟩
theorem c_law_within (T : Txt K mg) : Cal P w K mg base CX0 2 "_law_within" ["pairs", "low", "high"] spWithin := by
  have GR := c_law_rising (P := P) (w := w) (base := base) T
  have GB := c_law_before (P := P) (w := w) (base := base) T
  refine T.d_law_within.cal (fun f fd F => F.ok sc_lwi (fun vs H Q E h => ?_) (fun cdv A outer s H vs Q E hr h => ?_)) (fun _ _ _ _ _ _ us hl => match us, hl with | [_, _, _], _ => rfl)
  · obtain ⟨_, _, _, _, _, rfl, _⟩ := h
    rfl
  · obtain ⟨d, kvs, m, lo, hi, rfl, hd, hP, nd, hm, q⟩ := h
    refine ⟨_, (pss_cons (ps_set (i := 3) sc_lwi.nd rfl (.inl rfl) (pe_lst pa_nil)) <| pss_cons (ps_for PassesOwn.never rfl (pi_list (pe_cal GR hr pass0 (pa_cons (pv 0) pa_nil))) (pg_name (i := 4) sc_lwi.nd rfl (.inl rfl)) (pss_one (ps_if (PW.pt (pw_and (PW.pt (pw_or (pt_cmpR op_isN (pv 1) pe_non (nomark _)) (pw_or1 (pt_not (pt_val (pe_cal GB hr pass0 (pa_cons (pv 4) (pa_cons (pv 1) pa_nil)))))))) (pw_and1 (PW.pt (pw_or (pt_cmpR op_isN (pv 2) pe_non (nomark _)) (pw_or1 (pt_val (pe_cal GB hr pass0 (pa_cons (pv 4) (pa_cons (pv 2) pa_nil)))))))))) (pss_one (ps_expr (pe_bm PySem.F.plainAttrs_list PySem.F.slot_list_append PySem.F.type_list_append mt_append (pv 3) (pa_cons (pe_tup (pa_cons (pv 4) (pa_cons (pe_dget (te_hu hr) (pv 0) (pv 4) (fun _ _ => rfl)) pa_nil))) pa_nil)))) pss_nil))) <| pss_one (ps_ret (pv 3))), ?_⟩
    refine ⟨Nat.zero_le _, fun l hl => ?_⟩
    have sm0 : Same H (L2.upd H l (.lst [])) := same_upd (Same.refl _) hl
    refine ⟨_, rfl, d, kvs, m, rfl, sm0 _ _ hd, hP.mono (TK.of sm0), nd, hm, fun H1 p ks s1 hp hpl hrise hmem => ?_⟩
    have hlp : p ≠ l := fun z => by rw [z, upd_same] at hp; cases hp
    have hP1 := hP.mono (TK.of (sm0.trans s1))
    have hd1 := (sm0.trans s1) _ _ hd
    have hdl : d ≠ l := ne_of_none hd hl
    have hl1 := s1 _ _ (upd_same (H := H) (a := l) (o := HO.lst []))
    refine ⟨p, rfl, ⟨_, SqL.of hpl⟩, ?_⟩
    refine for_it (walk_list (xs := ks.map kyV)) (fun i σ Hc => ∃ (b : Option V) (us : List V), σ = [some (.ref d), some (kyO lo), some (kyO hi), some (.ref l), b] ∧ But l H1 Hc ∧ Hc l = some (.lst us) ∧ us.length ≤ i ∧ Paired (PrAt Hc) us (((ks.take i).filter fun k => isIn lo hi k).map (pairOf m)))
      ⟨none, [], rfl, fun _ _ _ z => z, hl1, Nat.le_refl _, .nil⟩ (fun i σ Hc _ ⟨_, _, _, b, _⟩ => SqL.of (b _ _ hlp hpl)) ?_ ?_
    · rintro i x σ H2 H3 hi2 ⟨b, us, rfl, but, hlu, hlen, hprs⟩ ⟨rfl, hx⟩
      rw [List.getElem?_map] at hx
      cases e : ks[i]? with
      | none => rw [e] at hx; cases hx
      | some k =>
        rw [e] at hx
        cases hx
        have hkm : k ∈ m.map (·.1) := (hmem k).mp (List.mem_of_getElem? e)
        obtain ⟨t, ht⟩ := Option.isSome_iff_exists.mp (lk_key.mpr hkm)
        have hd3 := but _ _ hdl hd1
        have tk3 : TK H1 H3 := fun a xs z => but a _ (ne_of z hl1 (fun z => nomatch z)) z
        have hP3 := hP1.mono tk3
        have go : isIn lo hi k = true → ∃ v, DGet H3 d (kyV k) (some v) ∧ ∀ b', H3 b' = none → (L2.upd H3 b' (.tup [kyV k, v])) l = some (.lst us) ∧ us.length < sizeLine ∧ But l H1 (L2.upd (L2.upd H3 b' (.tup [kyV k, v])) l (.lst (us ++ [.ref b']))) ∧ (us ++ [V.ref b']).length ≤ i + 1 ∧
            Paired (PrAt (L2.upd (L2.upd H3 b' (.tup [kyV k, v])) l (.lst (us ++ [.ref b'])))) (us ++ [.ref b']) (((ks.take (i + 1)).filter fun k => isIn lo hi k).map (pairOf m)) := by
          intro hin
          rcases hP3.val (n := k) with ⟨_, z⟩ | ⟨v, t', z1, z2, z3⟩
          · rw [ht] at z; cases z
          rw [ht] at z2
          cases z2
          refine ⟨v, ?_, fun b' hb' => ?_⟩
          · rw [← z1, ← kV_kK]
            exact DGet.k hd3
          have sm := same_upd (o := .tup [kyV k, v]) (Same.refl H3) hb'
          have hl4 := sm _ _ hlu
          have tk4 : TK H3 (L2.upd (L2.upd H3 b' (.tup [kyV k, v])) l (.lst (us ++ [.ref b']))) := (TK.of sm).trans (tk_lst hl4)
          have hks : ks.length ≤ 20 := by
            have hp2 := (List.perm_ext_iff_of_nodup (rise_nd hrise) nd).mpr hmem
            rw [hp2.length_eq, List.length_map]
            exact hm
          rw [List.length_map] at hi2
          refine ⟨hl4, Nat.lt_of_le_of_lt (show us.length ≤ 20 by omega) (by decide), (fun a o h1 h2 => by rw [upd_ne h1]; exact sm _ _ (but a o h1 h2)), by rw [List.length_append]; exact Nat.succ_le_succ hlen, ?_⟩
          rw [take_snoc e, List.filter_append, List.map_append, show ([k].filter fun k => isIn lo hi k) = [k] by simp [hin]]
          refine Paired.snoc (paired_mono (fun _ _ z => z.mono tk4) hprs) ⟨b', v, rfl, ?_, ?_⟩
          · rw [upd_ne (fun z => by rw [z] at hb'; rw [hb'] at hlu; cases hlu), upd_same]
            rfl
          · show ThA _ v ((lk m k).getD .non)
            rw [ht]
            exact z3.mono tk4
        have stay : isIn lo hi k = false → Paired (PrAt H3) us (((ks.take (i + 1)).filter fun k => isIn lo hi k).map (pairOf m)) := by
          intro hin
          rw [take_snoc e, List.filter_append, show ([k].filter fun k => isIn lo hi k) = [] by simp [hin], List.append_nil]
          exact hprs
        -- the tests
        have last : ∀ b : Bool, b = goesR hi k → notBelow lo k = true → b = isIn lo hi k := fun b h1 h2 => by
          unfold isIn
          rw [h2, Bool.true_and]
          exact h1
        have both : ∀ (lowOk : notBelow lo k = true), (goesR hi k = isIn lo hi k) := fun z => last _ rfl z
        refine ⟨_, rfl, rfl, _, rfl, ?_⟩
        cases lo with
        | none =>
          refine eqB (kyO_non none) (iteT ?_)
          have e0 := both rfl
          cases hi with
          | none =>
            have hin : isIn none none k = true := e0.symm
            refine ⟨_, rfl, rfl, _, rfl, eqB (kyO_non none) (iteT ?_)⟩
            obtain ⟨v, g1, g2⟩ := go hin
            exact ⟨_, rfl, .inl ⟨rfl, _, SqL.of hlu⟩, _, rfl, _, rfl, _, rfl, d, v, rfl, g1, (by show 2 ≤ sizeLine; decide), fun b' hb' => by
              obtain ⟨a1, a2, a3, a4, a5⟩ := g2 b' hb'
              exact ⟨l, _, _, rfl, rfl, a1, a2, _, _, rfl, a3, upd_same, a4, a5⟩⟩
          | some z =>
            refine ⟨_, rfl, rfl, _, rfl, neB (kyO_non (some z)) ⟨_, rfl, _, rfl, k, z, rfl, _, rfl, ?_⟩⟩
            cases hb : ahead k z with
            | true =>
              have hin : isIn none (some z) k = true := by rw [← e0]; exact hb
              refine iteT ?_
              obtain ⟨v, g1, g2⟩ := go hin
              exact ⟨_, rfl, .inl ⟨rfl, _, SqL.of hlu⟩, _, rfl, _, rfl, _, rfl, d, v, rfl, g1, (by show 2 ≤ sizeLine; decide), fun b' hb' => by
                obtain ⟨a1, a2, a3, a4, a5⟩ := g2 b' hb'
                exact ⟨l, _, _, rfl, rfl, a1, a2, _, _, rfl, a3, upd_same, a4, a5⟩⟩
            | false =>
              have hin : isIn none (some z) k = false := by rw [← e0]; exact hb
              exact iteF ⟨_, us, rfl, but, hlu, Nat.le_succ_of_le hlen, stay hin⟩
        | some y =>
          refine neB (kyO_non (some y)) ⟨_, rfl, _, rfl, k, y, rfl, _, rfl, ?_⟩
          cases hy : ahead k y with
          | true =>
            have hin : isIn (some y) hi k = false := by
              show (!ahead k y && goesR hi k) = false
              rw [hy]
              rfl
            exact iteF (iteF ⟨_, us, rfl, but, hlu, Nat.le_succ_of_le hlen, stay hin⟩)
          | false =>
            refine iteT ?_
            have e0 := both (by show (!ahead k y) = true; rw [hy]; rfl)
            cases hi with
            | none =>
              have hin : isIn (some y) none k = true := e0.symm
              refine ⟨_, rfl, rfl, _, rfl, eqB (kyO_non none) (iteT ?_)⟩
              obtain ⟨v, g1, g2⟩ := go hin
              exact ⟨_, rfl, .inl ⟨rfl, _, SqL.of hlu⟩, _, rfl, _, rfl, _, rfl, d, v, rfl, g1, (by show 2 ≤ sizeLine; decide), fun b' hb' => by
                obtain ⟨a1, a2, a3, a4, a5⟩ := g2 b' hb'
                exact ⟨l, _, _, rfl, rfl, a1, a2, _, _, rfl, a3, upd_same, a4, a5⟩⟩
            | some z =>
              refine ⟨_, rfl, rfl, _, rfl, neB (kyO_non (some z)) ⟨_, rfl, _, rfl, k, z, rfl, _, rfl, ?_⟩⟩
              cases hb : ahead k z with
              | true =>
                have hin : isIn (some y) (some z) k = true := by rw [← e0]; exact hb
                refine iteT ?_
                obtain ⟨v, g1, g2⟩ := go hin
                exact ⟨_, rfl, .inl ⟨rfl, _, SqL.of hlu⟩, _, rfl, _, rfl, _, rfl, d, v, rfl, g1, (by show 2 ≤ sizeLine; decide), fun b' hb' => by
                  obtain ⟨a1, a2, a3, a4, a5⟩ := g2 b' hb'
                  exact ⟨l, _, _, rfl, rfl, a1, a2, _, _, rfl, a3, upd_same, a4, a5⟩⟩
              | false =>
                have hin : isIn (some y) (some z) k = false := by rw [← e0]; exact hb
                exact iteF ⟨_, us, rfl, but, hlu, Nat.le_succ_of_le hlen, stay hin⟩
    · rintro σ Hc ⟨b, us, rfl, but, hlu, hlen, hprs⟩
      rw [List.length_map, List.take_length] at hprs
      refine ⟨_, rfl, q Hc l us ks (fun a o z => but a o (ne_of_none z hl) ((sm0.trans s1) _ _ z)) hl hlu hrise hmem hprs⟩
end
end PV
set_option Elab.async false
set_option linter.all false
set_option maxRecDepth 100000
set_option maxHeartbeats 4000000
/-! The law's asks; what a plain dict answers. -/
namespace PV
open PySem PySem.Spec PyProof.Rows L2
section
variable {P : Program} {w : World} {K : Frag} {mg : Str → Option Value} {base : Heap}
theorem lawAk_one {n tw : Int} (h : n % 7 ≠ 6) : lawAk n tw = .one (lawAq n tw) := if_neg h
theorem sc_las : FnScope ["number", "twin", "key", "other", "kind", "one", "two"] ["number", "twin"] (defScope s_law_ask) := ⟨rfl, rfl, rfl, by decide +kernel, rfl, by decide +kernel, by decide +kernel⟩
theorem c_law_ask0 (T : Txt K mg) : Cal P w K mg base CX0 3 "_law_ask" ["number", "twin"] (spAsk K false) := by
  have GK := c_law_key (P := P) (w := w) (base := base) T
  have GW := c_law_worth (P := P) (w := w) (base := base) T
  refine T.d_law_ask.cal (fun f fd F => F.ok sc_las (fun vs H Q E h => ?_) (fun cdv A outer s H vs Q E hr h => ?_)) (fun _ _ _ _ _ _ us hl => match us, hl with | [_, _], _ => rfl)
  · obtain ⟨_, _, rfl, _⟩ := h
    rfl
  · obtain ⟨n, tw, rfl, htw, hb, q⟩ := h
    have hr1 : Room 1 (A.deeper (envOfC "_law_ask" (defScope s_law_ask) s.heap.objs.size f cdv)) := hr.mono (by decide)
    have hr2 : Room 2 (A.deeper (envOfC "_law_ask" (defScope s_law_ask) s.heap.objs.size f cdv)) := hr.mono (by decide)
    refine ⟨_, (pss_cons (ps_set (i := 2) sc_las.nd rfl (.inl rfl) (pe_cal GK hr1 pass0 (pa_cons (pe_op op_fdiv (pv 0) pe_int) (pa_cons (pv 1) pa_nil)))) (pss_cons (ps_set (i := 3) sc_las.nd rfl (.inl rfl) (pe_cal GK hr1 pass0 (pa_cons (pe_op op_fdiv (pv 0) pe_int) (pa_cons (pv 1) pa_nil)))) (pss_cons (ps_set (i := 4) sc_las.nd rfl (.inl rfl) (pe_op op_mod (pv 0) pe_int)) (pss_cons (ps_if (pt_cmpR op_eq (pv 4) pe_int (nomark _)) (pss_one (ps_ret (pe_mk (mk_Find (P := P) (w := w) (base := base) T) hr2 pass0 (E := fun _ _ _ => False) (pa_cons (pv 2) pa_nil)))) pss_nil) (pss_cons (ps_if (pt_cmpR op_eq (pv 4) pe_int (nomark _)) (pss_one (ps_ret (pe_mk (mk_Stretch (P := P) (w := w) (base := base) T) hr2 pass0 (E := fun _ _ _ => False) (pa_cons (pe_ix ix_list (pe_lst (pa_cons pe_non (pa_cons (pv 2) pa_nil))) (pe_op op_mod (pe_op op_fdiv (pv 0) pe_int) pe_int) (fun _ _ => rfl)) (pa_cons (pe_ix ix_list (pe_lst (pa_cons pe_non (pa_cons (pv 3) pa_nil))) (pe_op op_mod (pe_op op_fdiv (pv 0) pe_int) pe_int) (fun _ _ => rfl)) pa_nil))))) pss_nil) (pss_cons (ps_if (pt_cmpR op_eq (pv 4) pe_int (nomark _)) (pss_one (ps_ret (pe_mk (mk_Count (P := P) (w := w) (base := base) T) hr2 pass0 (E := fun _ _ _ => False) (pa_cons (pe_ix ix_list (pe_lst (pa_cons pe_non (pa_cons (pv 2) pa_nil))) (pe_op op_mod (pe_op op_fdiv (pv 0) pe_int) pe_int) (fun _ _ => rfl)) (pa_cons (pe_ix ix_list (pe_lst (pa_cons pe_non (pa_cons (pv 3) pa_nil))) (pe_op op_mod (pe_op op_fdiv (pv 0) pe_int) pe_int) (fun _ _ => rfl)) pa_nil))))) pss_nil) (pss_cons (ps_if (pt_cmpR op_eq (pv 4) pe_int (nomark _)) (pss_one (ps_ret (pe_mk (mk_Nth (P := P) (w := w) (base := base) T) hr2 pass0 (E := fun _ _ _ => False) (pa_cons (pe_op op_sub (pe_op op_mod (pe_op op_fdiv (pv 0) pe_int) pe_int) pe_int) pa_nil)))) pss_nil) (pss_cons (ps_if (pt_cmpR op_eq (pv 4) pe_int (nomark _)) (pss_one (ps_ret (pe_mk (mk_Put (P := P) (w := w) (base := base) T) hr2 pass0 (E := fun _ _ _ => False) (pa_cons (pv 2) (pa_cons (pe_cal GW hr1 pass0 (pa_cons (pe_op op_fdiv (pv 0) pe_int) (pa_cons (pv 1) pa_nil))) pa_nil))))) pss_nil) (pss_cons (ps_if (pt_cmpR op_eq (pv 4) pe_int (nomark _)) (pss_one (ps_ret (pe_mk (mk_Cut (P := P) (w := w) (base := base) T) hr2 pass0 (E := fun _ _ _ => False) (pa_cons (pv 2) pa_nil)))) pss_nil) pss_never))))))))), ?_⟩
    refine ⟨_, rfl, _, _, rfl, rfl, ⟨by decide, by decide⟩, _, rfl, n / 7, tw, rfl, htw, fun H1 s1 => ?_⟩
    refine ⟨_, rfl, _, _, rfl, rfl, ⟨by decide, by decide⟩, _, rfl, n / 98, tw, rfl, htw, fun H2 s2 => ?_⟩
    have s12 := s1.trans s2
    refine ⟨_, rfl, _, _, rfl, rfl, (by show (0 : Int) < 7; decide), ?_⟩
    refine ⟨_, rfl, rfl, _, rfl, ?_⟩
    rw [dec_int]
    by_cases h0 : n % 7 = 0
    · refine eqB (by simp [h0]) ⟨_, rfl, fun x dx hx hdx hne => ⟨x, _, dx, rfl, upd_same, rfl, q _ _ (s12.trans (over_same (made_same hx hdx) hx)) ?_⟩⟩
      rw [lawAk_one (by omega)]
      refine ⟨x, _, dx, _, rfl, upd_same, .inl ⟨rfl, _, rfl, ?_⟩⟩
      unfold lawAq
      rw [if_pos h0]
    refine neB (by simp [h0]) ⟨_, rfl, rfl, _, rfl, ?_⟩
    rw [dec_int]
    by_cases h1 : n % 7 = 1
    · refine eqB (by simp [h1]) ?_
      refine ⟨_, rfl, (by show 2 ≤ sizeLine; decide), fun p hp => ⟨_, rfl, _, _, rfl, rfl, ⟨by decide, by decide⟩, _, _, rfl, rfl, (by show (0 : Int) < 2; decide), p, _, _, _, rfl, rfl, SqL.of upd_same, pick_may _ mod_two, ?_⟩⟩
      refine ⟨_, rfl, (by show 2 ≤ sizeLine; decide), fun p2 hp2 => ⟨_, rfl, _, _, rfl, rfl, ⟨by decide, by decide⟩, _, _, rfl, rfl, (by show (0 : Int) < 2; decide), p2, _, _, _, rfl, rfl, SqL.of upd_same, pick_may _ mod_two, ?_⟩⟩
      intro x dx hx hdx hne
      have sp := same_upd (o := .lst [.non, kyV (lawKey (n / 7) tw)]) (Same.refl H2) hp
      have sp2 := same_upd (o := .lst [.non, kyV (lawKey (n / 98) tw)]) sp (none_back sp hp2)
      have hxH := none_back sp2 hx
      refine ⟨x, _, _, dx, rfl, upd_same, rfl, q _ _ (s12.trans (over_same (over_same (sp2.trans (made_same hx hdx)) hxH) hxH)) ?_⟩
      rw [lawAk_one (by omega)]
      refine ⟨x, _, dx, _, rfl, upd_same, .inr (.inl ⟨rfl, _, _, rfl, ?_⟩)⟩
      unfold lawAq
      rw [if_neg h0]; rw [if_pos h1]
    refine neB (by simp [h1]) ⟨_, rfl, rfl, _, rfl, ?_⟩
    rw [dec_int]
    by_cases h2 : n % 7 = 2
    · refine eqB (by simp [h2]) ?_
      refine ⟨_, rfl, (by show 2 ≤ sizeLine; decide), fun p hp => ⟨_, rfl, _, _, rfl, rfl, ⟨by decide, by decide⟩, _, _, rfl, rfl, (by show (0 : Int) < 2; decide), p, _, _, _, rfl, rfl, SqL.of upd_same, pick_may _ mod_two, ?_⟩⟩
      refine ⟨_, rfl, (by show 2 ≤ sizeLine; decide), fun p2 hp2 => ⟨_, rfl, _, _, rfl, rfl, ⟨by decide, by decide⟩, _, _, rfl, rfl, (by show (0 : Int) < 2; decide), p2, _, _, _, rfl, rfl, SqL.of upd_same, pick_may _ mod_two, ?_⟩⟩
      intro x dx hx hdx hne
      have sp := same_upd (o := .lst [.non, kyV (lawKey (n / 7) tw)]) (Same.refl H2) hp
      have sp2 := same_upd (o := .lst [.non, kyV (lawKey (n / 98) tw)]) sp (none_back sp hp2)
      have hxH := none_back sp2 hx
      refine ⟨x, _, _, dx, rfl, upd_same, rfl, q _ _ (s12.trans (over_same (over_same (sp2.trans (made_same hx hdx)) hxH) hxH)) ?_⟩
      rw [lawAk_one (by omega)]
      refine ⟨x, _, dx, _, rfl, upd_same, .inr (.inr (.inl ⟨rfl, _, _, rfl, ?_⟩))⟩
      unfold lawAq
      rw [if_neg h0]; rw [if_neg h1]; rw [if_pos h2]
    refine neB (by simp [h2]) ⟨_, rfl, rfl, _, rfl, ?_⟩
    rw [dec_int]
    by_cases h3 : n % 7 = 3
    · refine eqB (by simp [h3]) ⟨_, rfl, _, _, rfl, rfl, ⟨by decide, by decide⟩, _, _, rfl, rfl, (by show (0 : Int) < 12; decide), _, _, rfl, rfl, fun x dx hx hdx hne => ⟨x, _, dx, rfl, upd_same, rfl, q _ _ (s12.trans (over_same (made_same hx hdx) hx)) ?_⟩⟩
      rw [lawAk_one (by omega)]
      refine ⟨x, _, dx, _, rfl, upd_same, .inr (.inr (.inr (.inl ⟨rfl, _, rfl, ?_⟩)))⟩
      unfold lawAq
      rw [if_neg h0, if_neg h1, if_neg h2, if_pos h3]
    refine neB (by simp [h3]) ⟨_, rfl, rfl, _, rfl, ?_⟩
    rw [dec_int]
    by_cases h4 : n % 7 = 4
    · refine eqB (by simp [h4]) ⟨_, rfl, _, rfl, _, _, rfl, rfl, ⟨by decide, by decide⟩, _, rfl, n / 98, tw, rfl, htw, fun H3 y s3 hy => ?_⟩
      intro x dx hx hdx hne
      have sm := over_same (x := x) (o := .ins (He.ga K "Put") dx [("key", kyV (lawKey (n / 7) tw)), ("worth", y)]) (over_same (x := x) (o := .ins (He.ga K "Put") dx [("key", kyV (lawKey (n / 7) tw))]) (made_same hx hdx (o1 := .ins (He.ga K "Put") dx [])) hx) hx
      refine ⟨x, _, _, dx, rfl, upd_same, rfl, q _ _ ((s12.trans s3).trans sm) ?_⟩
      rw [lawAk_one (by omega)]
      refine ⟨x, _, dx, _, rfl, upd_same, .inr (.inr (.inr (.inr (.inl ⟨rfl, _, y, _, rfl, hy.mono (TK.of sm), lawKey_ok _ _, ?_⟩))))⟩
      unfold lawAq
      rw [if_neg h0, if_neg h1, if_neg h2, if_neg h3, if_pos h4]
    refine neB (by simp [h4]) ⟨_, rfl, rfl, _, rfl, ?_⟩
    rw [dec_int]
    by_cases h5 : n % 7 = 5
    · refine eqB (by simp [h5]) ⟨_, rfl, fun x dx hx hdx hne => ⟨x, _, dx, rfl, upd_same, rfl, q _ _ (s12.trans (over_same (made_same hx hdx) hx)) ?_⟩⟩
      rw [lawAk_one (by omega)]
      refine ⟨x, _, dx, _, rfl, upd_same, .inr (.inr (.inr (.inr (.inr ⟨rfl, _, rfl, ?_⟩))))⟩
      unfold lawAq
      rw [if_neg h0, if_neg h1, if_neg h2, if_neg h3, if_neg h4]
    exact absurd (by omega : n % 7 = 6) (hb rfl)
theorem c_law_ask (T : Txt K mg) : Cal P w K mg base CX0 4 "_law_ask" ["number", "twin"] (spAsk K true) := by
  have GK := c_law_key (P := P) (w := w) (base := base) T
  have GW := c_law_worth (P := P) (w := w) (base := base) T
  have GA := c_law_ask0 (P := P) (w := w) (base := base) T
  refine T.d_law_ask.cal (fun f fd F => F.ok sc_las (fun vs H Q E h => ?_) (fun cdv A outer s H vs Q E hr h => ?_)) (fun _ _ _ _ _ _ us hl => match us, hl with | [_, _], _ => rfl)
  · obtain ⟨_, _, rfl, _⟩ := h
    rfl
  · obtain ⟨n, tw, rfl, htw, hb, q⟩ := h
    have hr1 : Room 1 (A.deeper (envOfC "_law_ask" (defScope s_law_ask) s.heap.objs.size f cdv)) := hr.mono (by decide)
    have hr2 : Room 2 (A.deeper (envOfC "_law_ask" (defScope s_law_ask) s.heap.objs.size f cdv)) := hr.mono (by decide)
    refine ⟨_, (pss_cons (ps_set (i := 2) sc_las.nd rfl (.inl rfl) (pe_cal GK hr1 pass0 (pa_cons (pe_op op_fdiv (pv 0) pe_int) (pa_cons (pv 1) pa_nil)))) <| pss_cons (ps_set (i := 3) sc_las.nd rfl (.inl rfl) (pe_cal GK hr1 pass0 (pa_cons (pe_op op_fdiv (pv 0) pe_int) (pa_cons (pv 1) pa_nil)))) <| pss_cons (ps_set (i := 4) sc_las.nd rfl (.inl rfl) (pe_op op_mod (pv 0) pe_int)) <| pss_cons (ps_if (pt_cmpR op_eq (pv 4) pe_int (nomark _)) (pss_one (ps_ret (pe_mk (mk_Find (P := P) (w := w) (base := base) T) hr2 pass0 (E := fun _ _ _ => False) (pa_cons (pv 2) pa_nil)))) pss_nil) <| pss_cons (ps_if (pt_cmpR op_eq (pv 4) pe_int (nomark _)) (pss_one (ps_ret (pe_mk (mk_Stretch (P := P) (w := w) (base := base) T) hr2 pass0 (E := fun _ _ _ => False) (pa_cons (pe_ix ix_list (pe_lst (pa_cons pe_non (pa_cons (pv 2) pa_nil))) (pe_op op_mod (pe_op op_fdiv (pv 0) pe_int) pe_int) (fun _ _ => rfl)) (pa_cons (pe_ix ix_list (pe_lst (pa_cons pe_non (pa_cons (pv 3) pa_nil))) (pe_op op_mod (pe_op op_fdiv (pv 0) pe_int) pe_int) (fun _ _ => rfl)) pa_nil))))) pss_nil) <| pss_cons (ps_if (pt_cmpR op_eq (pv 4) pe_int (nomark _)) (pss_one (ps_ret (pe_mk (mk_Count (P := P) (w := w) (base := base) T) hr2 pass0 (E := fun _ _ _ => False) (pa_cons (pe_ix ix_list (pe_lst (pa_cons pe_non (pa_cons (pv 2) pa_nil))) (pe_op op_mod (pe_op op_fdiv (pv 0) pe_int) pe_int) (fun _ _ => rfl)) (pa_cons (pe_ix ix_list (pe_lst (pa_cons pe_non (pa_cons (pv 3) pa_nil))) (pe_op op_mod (pe_op op_fdiv (pv 0) pe_int) pe_int) (fun _ _ => rfl)) pa_nil))))) pss_nil) <| pss_cons (ps_if (pt_cmpR op_eq (pv 4) pe_int (nomark _)) (pss_one (ps_ret (pe_mk (mk_Nth (P := P) (w := w) (base := base) T) hr2 pass0 (E := fun _ _ _ => False) (pa_cons (pe_op op_sub (pe_op op_mod (pe_op op_fdiv (pv 0) pe_int) pe_int) pe_int) pa_nil)))) pss_nil) <| pss_cons (ps_if (pt_cmpR op_eq (pv 4) pe_int (nomark _)) (pss_one (ps_ret (pe_mk (mk_Put (P := P) (w := w) (base := base) T) hr2 pass0 (E := fun _ _ _ => False) (pa_cons (pv 2) (pa_cons (pe_cal GW hr1 pass0 (pa_cons (pe_op op_fdiv (pv 0) pe_int) (pa_cons (pv 1) pa_nil))) pa_nil))))) pss_nil) <| pss_cons (ps_if (pt_cmpR op_eq (pv 4) pe_int (nomark _)) (pss_one (ps_ret (pe_mk (mk_Cut (P := P) (w := w) (base := base) T) hr2 pass0 (E := fun _ _ _ => False) (pa_cons (pv 2) pa_nil)))) pss_nil) <| pss_cons (ps_set (i := 5) sc_las.nd rfl (.inl rfl) (pe_op op_fdiv (pv 0) pe_int)) <| pss_cons (ps_set (i := 6) sc_las.nd rfl (.inl rfl) (pe_op op_fdiv (pv 0) pe_int)) <| pss_one (ps_ret (pe_mk (mk_Also (P := P) (w := w) (base := base) T) hr2 pass0 (E := fun _ _ _ => False) (pa_cons (pe_lst (pa_cons (pe_cal GA hr pass0 (pa_cons (pe_op op_add (pe_op op_mul (pe_op op_fdiv (pv 5) pe_int) pe_int) (pe_op op_mod (pv 5) pe_int)) (pa_cons (pv 1) pa_nil))) (pa_cons (pe_cal GA hr pass0 (pa_cons (pe_op op_add (pe_op op_mul (pe_op op_fdiv (pv 6) pe_int) pe_int) (pe_op op_mod (pv 6) pe_int)) (pa_cons (pv 1) pa_nil))) pa_nil))) pa_nil)))), ?_⟩
    refine ⟨_, rfl, _, _, rfl, rfl, ⟨by decide, by decide⟩, _, rfl, n / 7, tw, rfl, htw, fun H1 s1 => ?_⟩
    refine ⟨_, rfl, _, _, rfl, rfl, ⟨by decide, by decide⟩, _, rfl, n / 98, tw, rfl, htw, fun H2 s2 => ?_⟩
    have s12 := s1.trans s2
    refine ⟨_, rfl, _, _, rfl, rfl, (by show (0 : Int) < 7; decide), ?_⟩
    refine ⟨_, rfl, rfl, _, rfl, ?_⟩
    rw [dec_int]
    by_cases h0 : n % 7 = 0
    · refine eqB (by simp [h0]) ⟨_, rfl, fun x dx hx hdx hne => ⟨x, _, dx, rfl, upd_same, rfl, q _ _ (s12.trans (over_same (made_same hx hdx) hx)) ?_⟩⟩
      rw [lawAk_one (by omega)]
      refine ⟨x, _, dx, _, rfl, upd_same, .inl ⟨rfl, _, rfl, ?_⟩⟩
      unfold lawAq
      rw [if_pos h0]
    refine neB (by simp [h0]) ⟨_, rfl, rfl, _, rfl, ?_⟩
    rw [dec_int]
    by_cases h1 : n % 7 = 1
    · refine eqB (by simp [h1]) ?_
      refine ⟨_, rfl, (by show 2 ≤ sizeLine; decide), fun p hp => ⟨_, rfl, _, _, rfl, rfl, ⟨by decide, by decide⟩, _, _, rfl, rfl, (by show (0 : Int) < 2; decide), p, _, _, _, rfl, rfl, SqL.of upd_same, pick_may _ mod_two, ?_⟩⟩
      refine ⟨_, rfl, (by show 2 ≤ sizeLine; decide), fun p2 hp2 => ⟨_, rfl, _, _, rfl, rfl, ⟨by decide, by decide⟩, _, _, rfl, rfl, (by show (0 : Int) < 2; decide), p2, _, _, _, rfl, rfl, SqL.of upd_same, pick_may _ mod_two, ?_⟩⟩
      intro x dx hx hdx hne
      have sp := same_upd (o := .lst [.non, kyV (lawKey (n / 7) tw)]) (Same.refl H2) hp
      have sp2 := same_upd (o := .lst [.non, kyV (lawKey (n / 98) tw)]) sp (none_back sp hp2)
      have hxH := none_back sp2 hx
      refine ⟨x, _, _, dx, rfl, upd_same, rfl, q _ _ (s12.trans (over_same (over_same (sp2.trans (made_same hx hdx)) hxH) hxH)) ?_⟩
      rw [lawAk_one (by omega)]
      refine ⟨x, _, dx, _, rfl, upd_same, .inr (.inl ⟨rfl, _, _, rfl, ?_⟩)⟩
      unfold lawAq
      rw [if_neg h0]; rw [if_pos h1]
    refine neB (by simp [h1]) ⟨_, rfl, rfl, _, rfl, ?_⟩
    rw [dec_int]
    by_cases h2 : n % 7 = 2
    · refine eqB (by simp [h2]) ?_
      refine ⟨_, rfl, (by show 2 ≤ sizeLine; decide), fun p hp => ⟨_, rfl, _, _, rfl, rfl, ⟨by decide, by decide⟩, _, _, rfl, rfl, (by show (0 : Int) < 2; decide), p, _, _, _, rfl, rfl, SqL.of upd_same, pick_may _ mod_two, ?_⟩⟩
      refine ⟨_, rfl, (by show 2 ≤ sizeLine; decide), fun p2 hp2 => ⟨_, rfl, _, _, rfl, rfl, ⟨by decide, by decide⟩, _, _, rfl, rfl, (by show (0 : Int) < 2; decide), p2, _, _, _, rfl, rfl, SqL.of upd_same, pick_may _ mod_two, ?_⟩⟩
      intro x dx hx hdx hne
      have sp := same_upd (o := .lst [.non, kyV (lawKey (n / 7) tw)]) (Same.refl H2) hp
      have sp2 := same_upd (o := .lst [.non, kyV (lawKey (n / 98) tw)]) sp (none_back sp hp2)
      have hxH := none_back sp2 hx
      refine ⟨x, _, _, dx, rfl, upd_same, rfl, q _ _ (s12.trans (over_same (over_same (sp2.trans (made_same hx hdx)) hxH) hxH)) ?_⟩
      rw [lawAk_one (by omega)]
      refine ⟨x, _, dx, _, rfl, upd_same, .inr (.inr (.inl ⟨rfl, _, _, rfl, ?_⟩))⟩
      unfold lawAq
      rw [if_neg h0]; rw [if_neg h1]; rw [if_pos h2]
    refine neB (by simp [h2]) ⟨_, rfl, rfl, _, rfl, ?_⟩
    rw [dec_int]
    by_cases h3 : n % 7 = 3
    · refine eqB (by simp [h3]) ⟨_, rfl, _, _, rfl, rfl, ⟨by decide, by decide⟩, _, _, rfl, rfl, (by show (0 : Int) < 12; decide), _, _, rfl, rfl, fun x dx hx hdx hne => ⟨x, _, dx, rfl, upd_same, rfl, q _ _ (s12.trans (over_same (made_same hx hdx) hx)) ?_⟩⟩
      rw [lawAk_one (by omega)]
      refine ⟨x, _, dx, _, rfl, upd_same, .inr (.inr (.inr (.inl ⟨rfl, _, rfl, ?_⟩)))⟩
      unfold lawAq
      rw [if_neg h0, if_neg h1, if_neg h2, if_pos h3]
    refine neB (by simp [h3]) ⟨_, rfl, rfl, _, rfl, ?_⟩
    rw [dec_int]
    by_cases h4 : n % 7 = 4
    · refine eqB (by simp [h4]) ⟨_, rfl, _, rfl, _, _, rfl, rfl, ⟨by decide, by decide⟩, _, rfl, n / 98, tw, rfl, htw, fun H3 y s3 hy => ?_⟩
      intro x dx hx hdx hne
      have sm := over_same (x := x) (o := .ins (He.ga K "Put") dx [("key", kyV (lawKey (n / 7) tw)), ("worth", y)]) (over_same (x := x) (o := .ins (He.ga K "Put") dx [("key", kyV (lawKey (n / 7) tw))]) (made_same hx hdx (o1 := .ins (He.ga K "Put") dx [])) hx) hx
      refine ⟨x, _, _, dx, rfl, upd_same, rfl, q _ _ ((s12.trans s3).trans sm) ?_⟩
      rw [lawAk_one (by omega)]
      refine ⟨x, _, dx, _, rfl, upd_same, .inr (.inr (.inr (.inr (.inl ⟨rfl, _, y, _, rfl, hy.mono (TK.of sm), lawKey_ok _ _, ?_⟩))))⟩
      unfold lawAq
      rw [if_neg h0, if_neg h1, if_neg h2, if_neg h3, if_pos h4]
    refine neB (by simp [h4]) ⟨_, rfl, rfl, _, rfl, ?_⟩
    rw [dec_int]
    by_cases h5 : n % 7 = 5
    · refine eqB (by simp [h5]) ⟨_, rfl, fun x dx hx hdx hne => ⟨x, _, dx, rfl, upd_same, rfl, q _ _ (s12.trans (over_same (made_same hx hdx) hx)) ?_⟩⟩
      rw [lawAk_one (by omega)]
      refine ⟨x, _, dx, _, rfl, upd_same, .inr (.inr (.inr (.inr (.inr ⟨rfl, _, rfl, ?_⟩))))⟩
      unfold lawAq
      rw [if_neg h0, if_neg h1, if_neg h2, if_neg h3, if_neg h4]
    refine neB (by simp [h5]) ?_
    have h6 : n % 7 = 6 := by omega
    refine ⟨_, rfl, _, _, rfl, rfl, ⟨by decide, by decide⟩, ?_⟩
    refine ⟨_, rfl, _, _, rfl, rfl, ⟨by decide, by decide⟩, ?_⟩
    refine ⟨_, rfl, _, _, rfl, rfl, ⟨by decide, by decide⟩, _, _, rfl, rfl, .inr ⟨by decide, by decide⟩, _, rfl, _, _, rfl, rfl, (by show (0 : Int) < 6; decide), _, _, rfl, rfl, _, rfl, n / 7 / 7 * 7 + n / 7 % 6, tw, rfl, htw, (fun _ => by omega), fun H3 u1 s3 hu1 => ?_⟩
    refine ⟨_, rfl, _, _, rfl, rfl, ⟨by decide, by decide⟩, _, _, rfl, rfl, .inr ⟨by decide, by decide⟩, _, rfl, _, _, rfl, rfl, (by show (0 : Int) < 6; decide), _, _, rfl, rfl, _, rfl, n / 98 / 7 * 7 + n / 98 % 6, tw, rfl, htw, (fun _ => by omega), fun H4 u2 s4 hu2 => ?_⟩
    refine ⟨(by show 2 ≤ sizeLine; decide), fun p hp => ?_⟩
    intro x dx hx hdx hne
    have sp := same_upd (o := .lst [u1, u2]) (Same.refl H4) hp
    have sm := made_same (o1 := .ins (He.ga K "Also") dx []) hx hdx
    refine ⟨x, p, _, dx, rfl, upd_same, SqL.of (sm _ _ upd_same), fun l hl => ⟨rfl, q _ _ ?_ ?_⟩⟩
    · exact (((s12.trans s3).trans s4).trans sp).trans (over_same (same_upd sm (none_back sm hl)) hx)
    · have sl := over_same (x := x) (o := .ins (He.ga K "Also") dx [("asks", .ref l)]) (same_upd (o := .lst [u1, u2]) sm (none_back sm hl)) hx
      have e1 : lawAk n tw = .also_ [lawAq (n / 7 / 7 * 7 + n / 7 % 6) tw, lawAq (n / 98 / 7 * 7 + n / 98 % 6) tw] := if_pos h6
      rw [e1]
      rw [lawAk_one (by omega)] at hu1 hu2
      have k1 : NK H3 _ := (NK.of s4).trans ((NK.of sp).trans (NK.of sl))
      have k2 : NK H4 _ := (NK.of sp).trans (NK.of sl)
      have hlx : l ≠ x := fun z => by rw [z, upd_same] at hl; cases hl
      refine ⟨x, dx, l, [u1, u2], rfl, upd_same, by rw [upd_ne hlx, upd_same], .cons ?_ (.cons ?_ .nil), by simp⟩
      · exact AqAt.nk (show AqAt K H3 u1 _ from hu1) k1
      · exact AqAt.nk (show AqAt K H4 u2 _ from hu2) k2
end
end PV
set_option Elab.async false
set_option linter.all false
set_option maxRecDepth 100000
set_option maxHeartbeats 4000000
/-! What a plain dict answers; the keeper grown. -/
namespace PV
open PySem PySem.Spec PyProof.Rows L2
def GrC (K : Frag) (E : XK) : Prop := ∀ (H' : Hp) dd vx vy x y, H' dd = some (HO.xd [("other", vy), ("one", vx)]) → ThA H' vx x → ThA H' vy y → Unlike x y → x.fit = true → y.fit = true → E (.ref (He.ga K "Clash")) (some dd) H'
def spGrown (K : Frag) : Sp := fun vs H Q E => ∃ (k dxk dk dp nl : Addr) (ns : List Int) (tw : Int), vs = [.ref k, .ref dp, .ref nl, .int tw] ∧ (tw = 0 ∨ tw = 1) ∧ H k = some (.ins (He.ga K "Keeper") dxk [("by_seal", .ref dk)]) ∧ PAt K H k dk dk ⟨[], [], []⟩ ∧ dp ≠ dk ∧ H dp = some (.dK []) ∧
  H nl = some (.lst (ns.map V.int)) ∧ ns.length = 42 ∧ GrC K E ∧
  ∀ H' st T m kvs, Fr dk dp H H' → PAt K H' k dk dk st → KSt st T 14 → Tells m T → H' dp = some (.dK kvs) → PD H' kvs m → m.length ≤ 14 → Q (.int T.root) H'
theorem PAt_of {K : Frag} {H : Hp} {v d e dx : Addr} {st : VS} {C : Addr} {a : Str × V} (h : VAt K H v d e st) (hv : H v = some (.ins C dx [a])) : PAt K H v d e st := by
  rcases h with h | h
  · exact h
  · obtain ⟨dx2, b, dxb, db, hv2, _⟩ := h.ins
    rw [hv] at hv2
    cases hv2
abbrev dp_ (m : Mk_) (k : Ky) : Mk_ := dp m k
theorem dp_len (m : Mk_) (k : Ky) : (dp_ m k).length ≤ m.length := List.length_filter_le _ _
theorem dp_none {m : Mk_} {k : Ky} (h : lk m k = none) : dp_ m k = m := by
  refine List.filter_eq_self.mpr fun p hp => decide_eq_true fun e => ?_
  exact lk_none.mp h (List.mem_map.mpr ⟨p, hp, e⟩)
theorem grow_range : RgC 0 40 3 14 := by
  refine ⟨by decide, by decide, ?_, ?_⟩
  · decide +kernel
  · decide +kernel
theorem prs_dp {K : Frag} {H : Hp} {us : List V} {l : List (Ky × Th)} (h : Paired (PrAt H) us l) : DpAll K H us (l.map pairD) := by
  have z := ThL.dp (K := K) (prs_th h)
  rw [prs_data] at z
  exact z
section
variable {P : Program} {w : World} {K : Frag} {mg : Str → Option Value} {base : Heap}
theorem sc_lpl : FnScope ["number", "twin", "pairs", "key", "other", "some", "at"] ["number", "twin", "pairs"] (defScope s_law_plain) := ⟨rfl, rfl, rfl, by decide +kernel, rfl, by decide +kernel, by decide +kernel⟩
theorem c_law_plain (T : Txt K mg) : Cal P w K mg base CX0 3 "_law_plain" ["number", "twin", "pairs"] (spPlain K) := by
  have GK := c_law_key (P := P) (w := w) (base := base) T
  have GW := c_law_within (P := P) (w := w) (base := base) T
  refine T.d_law_plain.cal (fun f fd F => F.ok sc_lpl (fun vs H Q E h => ?_) (fun cdv A outer s H vs Q E hr h => ?_)) (fun _ _ _ _ _ _ us hl => match us, hl with | [_, _, _], _ => rfl)
  · obtain ⟨_, _, _, _, _, _, rfl, _⟩ := h
    rfl
  · obtain ⟨d, kvs, m, T0, n, tw, rfl, htw, hd, hP, hm, tl, gd, hn4, q⟩ := h
    have hr1 : Room 1 (A.deeper (envOfC "_law_plain" (defScope s_law_plain) s.heap.objs.size f cdv)) := hr.mono (by decide)
    refine ⟨_, (pss_cons (ps_set (i := 3) sc_lpl.nd rfl (.inl rfl) (pe_cal GK hr1 pass0 (pa_cons (pe_op op_fdiv (pv 0) pe_int) (pa_cons (pv 1) pa_nil)))) <| pss_cons (ps_set (i := 4) sc_lpl.nd rfl (.inl rfl) (pe_cal GK hr1 pass0 (pa_cons (pe_op op_fdiv (pv 0) pe_int) (pa_cons (pv 1) pa_nil)))) <| pss_cons (ps_set (i := 5) sc_lpl.nd rfl (.inl rfl) (pe_cal GW hr pass0 (pa_cons (pv 2) (pa_cons (pe_ix ix_list (pe_lst (pa_cons pe_non (pa_cons (pv 3) pa_nil))) (pe_op op_mod (pe_op op_fdiv (pv 0) pe_int) pe_int) (fun _ _ => rfl)) (pa_cons (pe_ix ix_list (pe_lst (pa_cons pe_non (pa_cons (pv 4) pa_nil))) (pe_op op_mod (pe_op op_fdiv (pv 0) pe_int) pe_int) (fun _ _ => rfl)) pa_nil))))) <| pss_cons (ps_if (pt_cmpR op_eq (pe_op op_mod (pv 0) pe_int) pe_int (nomark _)) (pss_one (ps_ret (pe_dget1 (te_hu hr) (pv 2) (pv 3) ⟨rfl, rfl, rfl, rfl⟩))) pss_nil) <| pss_cons (ps_if (pt_cmpR op_eq (pe_op op_mod (pv 0) pe_int) pe_int (nomark _)) (pss_one (ps_ret (pv 5))) pss_nil) <| pss_cons (ps_if (pt_cmpR op_eq (pe_op op_mod (pv 0) pe_int) pe_int (nomark _)) (pss_one (ps_ret (pe_callB call_len_seq (by rfl) T.b_len PySem.boot_len (pa_cons (pv 5) pa_nil)))) pss_nil) <| pss_cons (ps_set (i := 6) sc_lpl.nd rfl (.inl rfl) (pe_op op_sub (pe_op op_mod (pe_op op_fdiv (pv 0) pe_int) pe_int) pe_int)) <| pss_cons (ps_if (pt_chain op_le op_lt pe_int (pv 6) (pe_callB call_lenD (by rfl) T.b_len PySem.boot_len (pa_cons (pv 2) pa_nil))) (pss_one (ps_ret (pe_ix ix_list (pe_cal GW hr pass0 (pa_cons (pv 2) (pa_cons pe_non (pa_cons pe_non pa_nil)))) (pv 6) (fun _ _ => rfl)))) pss_nil) <| pss_one (ps_ret pe_non)), ?_⟩
    rw [show lawAk n tw = .one (lawAq n tw) from lawAk_one (by omega)] at q
    refine ⟨_, rfl, _, _, rfl, rfl, ⟨by decide, by decide⟩, _, rfl, n / 7, tw, rfl, htw, fun H1 s1 => ?_⟩
    refine ⟨_, rfl, _, _, rfl, rfl, ⟨by decide, by decide⟩, _, rfl, n / 98, tw, rfl, htw, fun H2 s2 => ?_⟩
    have s12 := s1.trans s2
    refine ⟨_, rfl, _, rfl, (by show 2 ≤ sizeLine; decide), fun p hp => ⟨_, rfl, _, _, rfl, rfl, ⟨by decide, by decide⟩, _, _, rfl, rfl, (by show (0 : Int) < 2; decide), p, _, _, _, rfl, rfl, SqL.of upd_same, pick_may _ mod_two, ?_⟩⟩
    refine ⟨_, rfl, (by show 2 ≤ sizeLine; decide), fun p2 hp2 => ⟨_, rfl, _, _, rfl, rfl, ⟨by decide, by decide⟩, _, _, rfl, rfl, (by show (0 : Int) < 2; decide), p2, _, _, _, rfl, rfl, SqL.of upd_same, pick_may _ mod_two, ?_⟩⟩
    have sp := same_upd (o := .lst [.non, kyV (lawKey (n / 7) tw)]) (Same.refl H2) hp
    have sp2 := s12.trans (same_upd (o := .lst [.non, kyV (lawKey (n / 98) tw)]) sp (none_back sp hp2))
    refine ⟨d, kvs, m, mayK (n / 7 % 2) (lawKey (n / 7) tw), mayK (n / 14 % 2) (lawKey (n / 98) tw), rfl, sp2 _ _ hd, hP.mono (TK.of sp2), tl.nd, by omega, fun H3 l us ks s3 hl hlu hrise hmem hprs => ?_⟩
    have s13 := sp2.trans s3
    rw [within_cut tl gd _ _ hrise hmem] at hprs
    have hd3 := s13 _ _ hd
    have hP3 := hP.mono (TK.of s13)
    refine ⟨_, rfl, _, _, rfl, rfl, (by show (0 : Int) < 7; decide), rfl, _, rfl, ?_⟩
    rw [dec_int]
    by_cases h0 : n % 7 = 0
    · have e1 : (Ak.one (lawAq n tw)).plain T0.toL = some ((lk T0.toL (lawKey (n / 7) tw)).getD .non).data := by
        show (lawAq n tw).plain T0.toL = _
        unfold lawAq
        rw [if_pos h0]
        rfl
      refine eqB (by simp [h0]) ⟨_, rfl, d, rfl, .inl ⟨kvs, .inl hd3⟩, _, rfl, valV kvs (kK (lawKey (n / 7) tw)), ?_, ?_⟩
      · rw [← kV_kK]
        exact DGet.k hd3
      · refine q H3 _ _ s13 e1 ?_
        rw [← tl.at_]
        rcases hP3.val (n := lawKey (n / 7) tw) with ⟨z1, z2⟩ | ⟨v, t, z1, z2, z3⟩
        · rw [z1, z2]
          show Dp K H3 .non (Th.non).data
          rw [Th.data]
          exact .non
        · rw [z1, z2]
          exact z3.dp
    refine neB (by simp [h0]) ⟨_, rfl, _, _, rfl, rfl, (by show (0 : Int) < 7; decide), rfl, _, rfl, ?_⟩
    rw [dec_int]
    by_cases h1 : n % 7 = 1
    · refine eqB (by simp [h1]) ⟨_, rfl, q H3 _ (.list ((cut_ (mayK (n / 7 % 2) (lawKey (n / 7) tw)) (mayK (n / 14 % 2) (lawKey (n / 98) tw)) T0.toL).map pairD)) s13 ?_ (.lst (SqL.of hlu) (prs_dp hprs))⟩
      show (lawAq n tw).plain T0.toL = _
      unfold lawAq
      rw [if_neg h0, if_pos h1]
      rfl
    refine neB (by simp [h1]) ⟨_, rfl, _, _, rfl, rfl, (by show (0 : Int) < 7; decide), rfl, _, rfl, ?_⟩
    rw [dec_int]
    by_cases h2 : n % 7 = 2
    · refine eqB (by simp [h2]) ⟨_, rfl, l, us, rfl, .inl (SqL.of hlu), q H3 _ (.int ((cut_ (mayK (n / 7 % 2) (lawKey (n / 7) tw)) (mayK (n / 14 % 2) (lawKey (n / 98) tw)) T0.toL).length : Int)) s13 ?_ ?_⟩
      · show (lawAq n tw).plain T0.toL = _
        unfold lawAq
        rw [if_neg h0, if_neg h1, if_pos h2]
        rfl
      · rw [Paired.length hprs]
        exact .int _
    refine neB (by simp [h2]) ⟨_, rfl, _, _, rfl, rfl, ⟨by decide, by decide⟩, _, _, rfl, rfl, (by show (0 : Int) < 12; decide), _, _, rfl, rfl, ?_⟩
    have h3 : n % 7 = 3 := by omega
    have e1 : ∀ e, optD (nthL (n / 7 % 12 - 2) T0.toL) = e → (Ak.one (lawAq n tw)).plain T0.toL = some e := by
      rintro e rfl
      show (lawAq n tw).plain T0.toL = _
      unfold lawAq
      rw [if_neg h0, if_neg h1, if_neg h2, if_pos h3]
      rfl
    have hkl := hP3.len
    have htl := tells_len tl gd
    have non : nthL (n / 7 % 12 - 2) T0.toL = none → Q .non H3 := by
      intro z
      exact q H3 _ (optD none) s13 (e1 _ (by rw [z])) .non
    refine ⟨_, rfl, _, _, rfl, rfl, _, rfl, ?_⟩
    by_cases ha : (0 : Int) ≤ n / 7 % 12 - 2
    · refine eqB (decide_eq_true ha) ⟨_, rfl, d, kvs, rfl, hd3, _, _, rfl, rfl, _, rfl, ?_⟩
      by_cases hb : n / 7 % 12 - 2 < ((kvs.length : Nat) : Int)
      · refine eqB (decide_eq_true hb) ⟨_, rfl, d, kvs, m, none, none, rfl, hd3, hP3, tl.nd, by omega, fun H4 l2 us2 ks2 s4 hl2 hlu2 hr2 hm2 hprs2 => ?_⟩
        rw [within_cut tl gd _ _ hr2 hm2, cut_all] at hprs2
        obtain ⟨j, hj⟩ : ∃ j : Nat, n / 7 % 12 - 2 = (j : Int) := ⟨(n / 7 % 12 - 2).toNat, by omega⟩
        have hul := Paired.length hprs2
        have hj2 : j < us2.length := by omega
        obtain ⟨p3, hp3, hpr⟩ := paired_at hprs2 (List.getElem?_eq_getElem hj2)
        refine ⟨_, rfl, l2, us2, _, us2[j], rfl, rfl, SqL.of hlu2, ?_, ?_⟩
        · show atI us2 (n / 7 % 12 - 2) = _
          rw [hj]
          exact atI_nat (List.getElem?_eq_getElem hj2)
        · refine q H4 _ (optD (some p3)) (s13.trans s4) (e1 _ ?_) ?_
          · unfold nthL
            rw [if_neg (by omega), hj, Int.toNat_natCast, hp3]
          · show Dp K H4 _ (pairD p3)
            rw [← pr_data]
            exact (pr_th hpr).dp
      · refine neB (decide_eq_false hb) (non ?_)
        unfold nthL
        rw [if_neg (by omega)]
        exact List.getElem?_eq_none (by omega)
    · refine neB (decide_eq_false ha) ⟨_, rfl, iteF (non ?_)⟩
      unfold nthL
      rw [if_pos (by omega)]
theorem sc_lgr : FnScope ["keeper", "pairs", "numbers", "twin", "root", "k", "key"] ["keeper", "pairs", "numbers", "twin"] (defScope s_law_grown) := ⟨rfl, rfl, rfl, by decide +kernel, rfl, by decide +kernel, by decide +kernel⟩
theorem c_law_grown (T : Txt K mg) : Cal P w K mg base (L2.CX P w) 13 "_law_grown" ["keeper", "pairs", "numbers", "twin"] (spGrown K) := by
  have GK := c_law_key (P := P) (w := w) (base := base) T
  have GW := c_law_worth (P := P) (w := w) (base := base) T
  have GP := c_put (P := P) (w := w) (base := base) T
  have GC := c_cut (P := P) (w := w) (base := base) T
  refine T.d_law_grown.cal (fun f fd F => F.okX sc_lgr (fun vs H Q E h => ?_) (fun cdv A outer s H vs Q E hr h => ?_)) (fun _ _ _ _ _ _ us hl => match us, hl with | [_, _, _, _], _ => rfl)
  · obtain ⟨_, _, _, _, _, _, _, rfl, _⟩ := h
    rfl
  · obtain ⟨k, dxk, dk, dp, nl, ns, tw, rfl, htw, hk, hP, hne, hdp, hnl, h42, hE, q⟩ := h
    have hr1 : Room 1 (A.deeper (envOfC "_law_grown" (defScope s_law_grown) s.heap.objs.size f cdv)) := hr.mono (by decide)
    refine ⟨_, (pss_cons (ps_set (i := 4) sc_lgr.nd rfl (.inl rfl) pe_int) <| pss_cons (ps_for (passes_of rfl) rfl (pi_range3 rfl T.b_range (pa_cons pe_int (pa_cons (pe_op op_sub (pe_callB call_len_seq (by rfl) T.b_len PySem.boot_len (pa_cons (pv 2) pa_nil)) pe_int) (pa_cons pe_int pa_nil)))) (pg_name (i := 5) sc_lgr.nd rfl (.inl rfl)) (pss_cons (ps_set (i := 6) sc_lgr.nd rfl (.inl rfl) (pe_cal GK hr1 pass0 (pa_cons (pe_ix ix_list (pv 2) (pv 5) (fun _ _ => rfl)) (pa_cons (pv 3) pa_nil)))) <| pss_one (ps_if (pt_cmpR op_eq (pe_op op_mod (pe_ix ix_list (pv 2) (pe_op op_add (pv 5) pe_int) (fun _ _ => rfl)) pe_int) pe_int (nomark _)) (pss_cons (ps_expr (pe_dpop2 (pv 1) (pv 6) pe_non ⟨rfl, rfl, rfl, rfl⟩)) <| pss_one (ps_set (i := 4) sc_lgr.nd rfl (.inl rfl) (pe_cal GC hr (passes_call (takes_of rfl rfl rfl rfl) (fun _ _ _ _ h => h)) (pa_cons (pv 0) (pa_cons (pv 4) (pa_cons (pv 6) pa_nil)))))) (pss_cons (ps_dput (te_hu hr) (pv 1) (pv 6) (pe_cal GW hr1 pass0 (pa_cons (pe_ix ix_list (pv 2) (pe_op op_add (pv 5) pe_int) (fun _ _ => rfl)) (pa_cons (pv 3) pa_nil))) rfl) <| pss_one (ps_set (i := 4) sc_lgr.nd rfl (.inl rfl) (pe_cal GP hr (passes_call (takes_of rfl rfl rfl rfl) (fun _ _ _ _ h => h)) (pa_cons (pv 0) (pa_cons (pv 4) (pa_cons (pv 6) (pa_cons (pe_dget (te_hu hr) (pv 1) (pv 6) (fun _ _ => rfl)) pa_nil)))))))))) <| pss_one (ps_ret (pv 4))), ?_⟩
    have hnlen : (ns.map V.int).length = 42 := by rw [List.length_map]; exact h42
    refine ⟨_, rfl, nl, _, rfl, .inl (SqL.of hnl), _, _, rfl, rfl, 0, 40, 3, 14, ?_, grow_range, ?_⟩
    · rw [hnlen]
      rfl
    have hkd : k ≠ dk := by
      obtain ⟨kvs0, h1, _⟩ := hP.own
      exact ne_of hk h1 (fun z => nomatch z)
    have hkp : k ≠ dp := ne_of hk hdp (fun z => nomatch z)
    have hnd : nl ≠ dk := by
      obtain ⟨kvs0, h1, _⟩ := hP.own
      exact ne_of hnl h1 (fun z => nomatch z)
    have hnp : nl ≠ dp := ne_of hnl hdp (fun z => nomatch z)
    refine for_it (walk_rangeC (lo := 0) (c := 3) (n := 14)) (fun i σ Hc => ∃ (b5 b6 : Option V) (st : VS) (T0 : Tr) (m : Mk_) (kvs : List (Key × V)), σ = [some (.ref k), some (.ref dp), some (.ref nl), some (.int tw), some (.int T0.root), b5, b6] ∧ Fr dk dp H Hc ∧ PAt K Hc k dk dk st ∧ KSt st T0 i ∧ Tells m T0 ∧ Hc dp = some (.dK kvs) ∧ PD Hc kvs m ∧ m.length ≤ i)
      ⟨none, none, _, .lf, [], [], rfl, Fr.refl _ _ _, hP, kst_nil, tells_nil, hdp, .nil, Nat.le_refl _⟩ (fun _ _ _ _ _ => trivial) ?_ ?_
    · rintro i x σ H1 H2 hi ⟨b5, b6, st, T0, m, kvs, rfl, fr, hP1, ks, tl, hdp1, hPD, hml⟩ ⟨rfl, rfl⟩
      have hnl1 := fr _ _ hnd hnp hnl
      have at_ : ∀ j : Nat, j < 42 → ∃ v : Int, atI (ns.map V.int) (j : Int) = some (.int v) := fun j hj => ⟨ns[j], atI_nat (by rw [List.getElem?_map, List.getElem?_eq_getElem (by omega)]; rfl)⟩
      obtain ⟨n0, a0⟩ := at_ (3 * i) (by omega)
      obtain ⟨n1, a1⟩ := at_ (3 * i + 1) (by omega)
      obtain ⟨n2, a2⟩ := at_ (3 * i + 2) (by omega)
      have ei : (0 : Int) + (i : Nat) * 3 = ((3 * i : Nat) : Int) := by omega
      show gName 5 (.int (0 + (i : Nat) * 3)) _ _ _
      rw [ei]
      refine ⟨_, rfl, _, rfl, nl, _, _, _, rfl, rfl, SqL.of hnl1, a0, _, rfl, n0, tw, rfl, htw, fun H3 s3 => ?_⟩
      have hnl3 := s3 _ _ hnl1
      have hP3 := hP1.same s3
      have hdp3 := s3 _ _ hdp1
      have hPD3 := hPD.mono (TK.of s3)
      have fr3 := fr.trans (Fr.of s3)
      have hkok := lawKey_ok n0 tw
      generalize lawKey n0 tw = key at hkok
      -- behind put or cut
      have after : ∀ (p : Prog Int) (T1 : Tr) (m1 : Mk_) (kvs1 : List (Key × V)) (H4 : Hp) (D : VK), Fr dk dp H H4 → PAt K H4 k dk dk st → H4 dp = some (.dK kvs1) → PD H4 kvs1 m1 → Tells m1 T1 → m1.length ≤ i + 1 → wpr p st (fun n s' => n = T1.root ∧ KSt s' T1 (i + 1)) False Unlike →
          (∀ H5 st5, Fr dk dp H H5 → PAt K H5 k dk dk st5 → KSt st5 T1 (i + 1) → H5 dp = some (.dK kvs1) → PD H5 kvs1 m1 → D (.int T1.root) H5) → SpP K p RInt k dk dk st H4 D E := by
        intro p T1 m1 kvs1 H4 D f4 hP4 hdp4 hPD4 tl1 hm1 hw hD
        refine wp_mono (wp_fit p st hP4.ok hP4.agr hw) (fun n s' hn H5 u f5 V5 r5 => ?_) (fun z => z.elim) (fun x y hc H5 dd vx vy f5 hx h1 h2 => hE H5 dd vx vy x y hx h1 h2 hc.1 hc.2.1 hc.2.2)
        obtain ⟨rfl, ks5⟩ := hn
        cases r5
        have f45 : Fr dk dp H4 H5 := f5.left
        have hk4 := f4 _ _ hkd hkp hk
        have hk5 := f45 _ _ hkd hkp hk4
        have tk5 : TK H4 H5 := VAt.tk (.inl hP4) f5
        exact hD H5 s' (f4.trans f45) (PAt_of V5 hk5) ks5 (f5 _ _ hne hne hdp4) (hPD4.mono tk5)
      refine ⟨_, rfl, _, rfl, _, _, rfl, rfl, nl, _, _, _, rfl, rfl, SqL.of hnl3, a2, _, _, rfl, rfl, (by show (0 : Int) < 5; decide), rfl, _, rfl, ?_⟩
      rw [dec_int]
      by_cases hz : n2 % 5 = 0
      · refine eqB (by simp [hz]) ?_
        refine ⟨_, rfl, dp, rfl, .inl ⟨kvs, .inl hdp3⟩, _, rfl, kvs, kK key, hdp3, (kV_kK key).symm, ?_⟩
        have hdp4 : (L2.upd H3 dp (.dK (dropK kvs (kK key)))) dp = some (.dK (dropK kvs (kK key))) := upd_same
        have tk4 : TK H3 (L2.upd H3 dp (.dK (dropK kvs (kK key)))) := fun a xs z => by rw [upd_ne (ne_of z hdp3 (fun z => nomatch z))]; exact z
        have f4 : Fr dk dp H (L2.upd H3 dp (.dK (dropK kvs (kK key)))) := fr3.trans (fun a o _ h2 z => by rw [upd_ne h2]; exact z)
        have hP4 : PAt K (L2.upd H3 dp (.dK (dropK kvs (kK key)))) k dk dk st := by
          obtain ⟨C, dx, hC, hv⟩ := hP3.ins
          obtain ⟨kv, z1, z2⟩ := hP3.own
          exact ⟨⟨C, dx, hC, by rw [upd_ne hkp]; exact hv⟩, rfl, ⟨kv, by rw [upd_ne (Ne.symm hne)]; exact z1, z2.mono tk4⟩, hP3.below, hP3.noted, hP3.ok, hP3.agr⟩
        refine ⟨fun v _ => ?_, fun habs => ?_⟩
        · exact ⟨_, rfl, _, rfl, _, rfl, k, dk, dk, st, T0.root, key, rfl, .inl hP4, after (cutQ T0.root key) (cutT key T0) (dp_ m key) (dropK kvs (kK key)) (L2.upd H3 dp (.dK (dropK kvs (kK key)))) _ f4 hP4 hdp4 ((hPD3.mono tk4).drop) (tl.cut ks.good key) (Nat.le_trans (dp_len m key) (Nat.le_succ_of_le hml)) (cut_step ks (by omega))
            (fun H5 st5 f5 hP5 ks5 hd5 hPD5 => by exact ⟨_, _, st5, cutT key T0, dp_ m key, dropK kvs (kK key), rfl, f5, hP5, ks5, tl.cut ks.good key, hd5, hPD5, Nat.le_trans (dp_len m key) (Nat.le_succ_of_le hml)⟩)⟩
        · have hdm : dp_ m key = m := by
            rcases hPD3.val (n := key) with ⟨_, z⟩ | ⟨_, _, z, _⟩
            · exact dp_none z
            · rw [habs] at z
              cases z
          exact ⟨_, rfl, _, rfl, _, rfl, k, dk, dk, st, T0.root, key, rfl, .inl hP3, after (cutQ T0.root key) (cutT key T0) (dp_ m key) kvs H3 _ fr3 hP3 hdp3 (by rw [hdm]; exact hPD3) (tl.cut ks.good key) (Nat.le_trans (dp_len m key) (Nat.le_succ_of_le hml)) (cut_step ks (by omega))
            (fun H5 st5 f5 hP5 ks5 hd5 hPD5 => by exact ⟨_, _, st5, cutT key T0, dp_ m key, kvs, rfl, f5, hP5, ks5, tl.cut ks.good key, hd5, hPD5, Nat.le_trans (dp_len m key) (Nat.le_succ_of_le hml)⟩)⟩
      · refine neB (by simp [hz]) ?_
        refine ⟨_, rfl, _, rfl, _, _, rfl, rfl, nl, _, _, _, rfl, rfl, SqL.of hnl3, a1, _, rfl, n1, tw, rfl, htw, fun H4 y s4 hy => ?_⟩
        have hdp4 := s4 _ _ hdp3
        have hwok := lawWorth_ok n1 tw
        generalize lawWorth n1 tw = worth at hy hwok
        have hPD4 := hPD3.mono (TK.of s4)
        have hkl := hPD4.len
        refine ⟨_, rfl, _, rfl, dp, L2.upd H4 dp (.dK (putK kvs (kK key) y)), rfl, ?_, ?_⟩
        · rw [← kV_kK]
          exact DPut.k hdp4 (Nat.lt_of_le_of_lt (show kvs.length ≤ 20 by omega) (by decide))
        have hP4 := hP3.same s4
        have tk5 : TK H4 (L2.upd H4 dp (.dK (putK kvs (kK key) y))) := fun a xs z => by rw [upd_ne (ne_of z hdp4 (fun z => nomatch z))]; exact z
        have f5 : Fr dk dp H (L2.upd H4 dp (.dK (putK kvs (kK key) y))) := (fr3.trans (Fr.of s4)).trans (fun a o _ h2 z => by rw [upd_ne h2]; exact z)
        have hP5 : PAt K (L2.upd H4 dp (.dK (putK kvs (kK key) y))) k dk dk st := by
          obtain ⟨C, dx, hC, hv⟩ := hP4.ins
          obtain ⟨kv, z1, z2⟩ := hP4.own
          exact ⟨⟨C, dx, hC, by rw [upd_ne hkp]; exact hv⟩, rfl, ⟨kv, by rw [upd_ne (Ne.symm hne)]; exact z1, z2.mono tk5⟩, hP4.below, hP4.noted, hP4.ok, hP4.agr⟩
        have hPD5 : PD (L2.upd H4 dp (.dK (putK kvs (kK key) y))) (putK kvs (kK key) y) (pt m key worth) := (hPD4.mono tk5).put (hy.mono tk5)
        have hm5 : (pt m key worth).length ≤ i + 1 := Nat.le_trans (pt_len _ _ _) (Nat.succ_le_succ hml)
        have tl5 := tl.put ks.good key worth
        refine ⟨_, rfl, _, rfl, _, rfl, _, rfl, _, rfl, dp, y, rfl, ?_, k, dk, dk, st, T0.root, key, y, worth, rfl, .inl hP5, hkok, hy.mono tk5, after (putQ T0.root key worth) (putT key worth T0) (pt m key worth) (putK kvs (kK key) y) (L2.upd H4 dp (.dK (putK kvs (kK key) y))) _ f5 hP5 upd_same hPD5 tl5 hm5 (put_step ks (by omega) ⟨hkok, hwok.1, hwok.2⟩)
          (fun H6 st6 f6 hP6 ks6 hd6 hPD6 => ⟨_, _, st6, putT key worth T0, pt m key worth, putK kvs (kK key) y, rfl, f6, hP6, ks6, tl5, hd6, hPD6, hm5⟩)⟩
        rw [← kV_kK, show some y = valV (putK kvs (kK key) y) (kK key) by rw [valV_put, if_pos rfl]]
        exact DGet.k upd_same
    · rintro σ H1 ⟨b5, b6, st, T0, m, kvs, rfl, fr, hP1, ks, tl, hdp1, hPD, hml⟩
      exact ⟨_, rfl, q H1 st T0 m kvs fr hP1 ks tl hdp1 hPD hml⟩
end
end PV
set_option Elab.async false
set_option linter.all false
set_option maxRecDepth 100000
set_option maxHeartbeats 4000000
/-! A paper's form; with one thing less. -/
namespace PV
open PySem PySem.Spec PyProof.Rows L2
def spPR : Sp := fun vs H Q _ => ∃ pl sl us l ws l2, vs = [.ref pl, .ref sl] ∧ H pl = some (.lst us) ∧ ThL H us l ∧ H sl = some (.lst ws) ∧ ThL H ws l2 ∧ (l.map sealOf).Pairwise (· < ·) ∧ (∀ t ∈ l, t.fit = true ∧ t ∈ l2) ∧ (∀ t ∈ l2, t.fit = true) ∧ l.length ≤ 1000 ∧ ∀ H', Same H H' → Q (.bl true) H'
/-- isinstance(x, list), x a list -/
theorem cr_isList {X : Cx} : CallR X (.builtin "isinstance") (fun vs H Q => ∃ a xs, vs = [.ref a, .ty "list"] ∧ H a = some (.lst xs) ∧ Q (.bl true) H) := by
  intro pins s σ H xs us Q I r h
  obtain ⟨a, ys, rfl, ha, q⟩ := h
  exact call_isi pins s σ H _ us Q I r ⟨.ref a, .ty "list", .type "list", .type "list", true, rfl, .ty _, .base (.lst ha), kit_ty (by decide +kernel), q⟩
theorem upd2_old {H : Hp} {D p : Addr} {o o2 : HO} (h : L2.upd H D o p = none) : L2.upd (L2.upd H D o) p o2 D = some o := by
  rw [upd_ne (fun z => by rw [← z, upd_same] at h; cases h), upd_same]
theorem dpAll_ints {K : Frag} {H : Hp} : ∀ ns : List Int, DpAll K H (ns.map V.int) (ns.map PyData.int)
  | [] => .nil
  | n :: r => .cons (.int n) (dpAll_ints r)
theorem lay_ints : ∀ ns : List Int, PyData.canLayAll0 (ns.map PyData.int) = true ∧ PyData.depthAll (ns.map PyData.int) ≤ 1
  | [] => by simp [PyData.canLayAll0, PyData.depthAll]
  | n :: r => by
    have ih := lay_ints r
    refine ⟨?_, ?_⟩
    · rw [List.map_cons, PyData.canLayAll0, ih.1]
      simp [PyData.canLay0]
    · rw [List.map_cons, PyData.depthAll]
      refine Nat.max_le.mpr ⟨?_, ih.2⟩
      simp [PyData.depth]
theorem shaped_ints (ns : List Int) : SeqAt.shaped (.list (ns.map PyData.int)) = true := by
  show (PyData.canLay0 (.list (ns.map PyData.int)) && decide (PyData.depth (.list (ns.map PyData.int)) ≤ 64)) = true
  have h := lay_ints ns
  rw [PyData.canLay0, PyData.depth, h.1, decide_eq_true (by omega)]
  rfl
theorem shaped_ths {l : List Th} (h : ∀ t ∈ l, t.fit = true) : SeqAt.shaped (.list (Th.dataL l)) = true := shaped_flat (flat_list fun t ht => (fit_iff.mp (h t ht)).1)
theorem shaped_nil : SeqAt.shaped (.list []) = true := by decide +kernel
theorem any_eqv {t : Th} : ∀ {l : List Th}, t ∈ l → ((Th.dataL l).any fun z => PyData.eqv z t.data) = true
  | [], h => nomatch h
  | a :: r, h => by
    rw [Th.dataL, List.any_cons, eqv_dec]
    rcases List.mem_cons.mp h with rfl | h
    · rw [decide_eq_true rfl, Bool.true_or]
    · rw [any_eqv h, Bool.or_true]
section
variable {P : Program} {w : World} {K : Frag} {mg : Str → Option Value} {base : Heap}
theorem hu65 {k : Nat} {A : Around} (r : Room k A) : A.units + 65 < cLine := by have := r.un; omega
theorem sc_lpr : FnScope ["paper", "some", "seals", "one"] ["paper", "some"] (defScope s_law_paper_right) := ⟨rfl, rfl, rfl, by decide +kernel, rfl, by decide +kernel, by decide +kernel⟩
theorem c_law_paper_right (T : Txt K mg) : Cal P w K mg base CX0 9 "_law_paper_right" ["paper", "some"] spPR := by
  have G := c_seal (P := P) (w := w) (base := base) T
  refine T.d_law_paper_right.cal (fun f fd F => F.ok sc_lpr (fun vs H Q E h => ?_) (fun cdv A outer s H vs Q E hr h => ?_)) (fun _ _ _ _ _ _ us hl => match us, hl with | [_, _], _ => rfl)
  · obtain ⟨_, _, _, _, _, _, rfl, _⟩ := h
    rfl
  · obtain ⟨pl, sl, us, l, ws, l2, rfl, hpl, hul, hsl, hwl, hri, hfi, hfi2, hlen, q⟩ := h
    refine ⟨_, (pss_cons (ps_if (pt_not (pt_val (pe_callB cr_isList (by rfl) T.b_isinstance PyProof.Rows.boot_isinstance (pa_cons (pv 0) (pa_cons (pe_bltn (v := .ty "list") rfl T.b_list PyProof.Rows.boot_list rfl) pa_nil))))) (pss_one (ps_ret pe_bl)) pss_nil) <| pss_cons (ps_setLc (te := tCall spSl [] E0 (tCons (tVar 3) tNil)) (i := 2) (own := [("one", 3)]) (g := gName 3) (tt := tYes) (by rfl) sc_lpr.nd rfl rfl (sw_true rfl rfl rfl (by decide +kernel)) (pi_list (pv 0)) (blkOk_by (own := [("one", 3)]) (N := ["paper", "some", "seals", "one"]) (sc := defScope s_law_paper_right) (by decide +kernel)) (fun _ _ _ _ _ => pg_name (i := 3) sc_lpr.nd rfl (.inl rfl)) (fun _ _ _ _ _ => pts_nil) (fun _ _ _ _ _ => pe_cal G hr pass0 (pa_cons (pv 3) pa_nil))) <| pss_one (ps_ret (pe_and (pe_cmpR (op_eqD hr.units) (pv 2) (pe_callB (cr_sortedSetA rfl) (by rfl) T.b_sorted PyProof.Rows.boot_sorted (pa_cons (pe_callTy (cr_setL rfl) (by rfl) T.b_set PyProof.Rows.boot_set (pa_cons (pv 2) pa_nil)) pa_nil)) (nomark _)) (pe_one (pe_cmpR (op_eqD hr.units) (pe_lc (te := tVar 3) (own := [("one", 3)]) (g := gName 3) (tt := tTest (tOp (rNotInD K) (tVar 3) (tVar 1))) rfl sc_lpr.nd (pi_list (pv 0)) (blkOk_by (own := [("one", 3)]) (N := ["paper", "some", "seals", "one"]) (sc := defScope s_law_paper_right) (by decide +kernel)) (fun _ _ _ _ _ => pg_name (i := 3) sc_lpr.nd rfl (.inl rfl)) (fun _ _ _ _ _ => pts_one (pt_cmpR (op_notInD (hu65 hr)) (pv 3) (pv 1) (by rfl))) (fun _ _ _ _ _ => pv 3)) (pe_lst pa_nil) (nomark _)))))), ?_⟩
    have hus := hul.len
    refine ⟨_, rfl, pl, us, rfl, hpl, _, rfl, iteF ?_⟩
    refine ⟨_, rfl, pl, rfl, ⟨us, SqL.of hpl⟩, fun D hD => ?_⟩
    have sm0 : Same H (L2.upd H D (.lst [])) := same_upd (Same.refl _) hD
    refine lc_it (walk_list (xs := us)) (fun i Hc => ∃ H1, Same H H1 ∧ Hc = L2.upd H1 D (.lst (((l.take i).map sealOf).map V.int))) ⟨H, Same.refl _, rfl⟩ (fun i Hc _ ⟨H1, s1, e⟩ => by rw [e]; exact SqL.of ((same_upd s1 hD) _ _ hpl)) ?_ ?_
    · rintro i x H2 H3 hi ⟨H1, s1, rfl⟩ ⟨rfl, hx⟩
      obtain ⟨t, ht, hA⟩ := hul.at_ hx
      have s2 : Same H (L2.upd H1 D (.lst (((l.take i).map sealOf).map V.int))) := same_upd s1 hD
      refine ⟨rfl, ?_⟩
      simp only [tYes, if_true]
      refine ⟨_, rfl, x, t, rfl, hA.mono (TK.of s2), (hfi t (List.mem_of_getElem? ht)).1, fun H4 s4 => ?_⟩
      refine ⟨_, s4 _ _ upd_same, ?_, H4, s2.trans s4, ?_⟩
      · rw [List.length_map, List.length_map, List.length_take]
        exact Nat.lt_of_le_of_lt (show min i l.length ≤ 1000 by omega) (by decide)
      · rw [take_snoc ht, List.map_append, List.map_append]
        rfl
    · rintro Hc ⟨H1, s1, rfl⟩
      rw [hus, List.take_length]
      have s2 : Same H (L2.upd H1 D (.lst ((l.map sealOf).map V.int))) := same_upd s1 hD
      have hDl : (L2.upd H1 D (.lst ((l.map sealOf).map V.int))) D = some (.lst ((l.map sealOf).map V.int)) := upd_same
      generalize L2.upd H1 D (.lst ((l.map sealOf).map V.int)) = H2 at s2 hDl
      refine ⟨_, rfl, _, rfl, D, l.map sealOf, rfl, SqL.of hDl, by rw [List.length_map]; exact hlen, fun a c hc ha => ?_⟩
      refine ⟨a, _, c, rfl, upd_same, ?_, fun ns p hns hmem hnl hp => ?_⟩
      · rw [List.length_map] at hc
        exact Nat.le_trans (Nat.le_trans hc hlen) (by decide)
      have e1 : ns = l.map sealOf := rise_unique (R := fun a b : Int => a < b) (fun a => Int.lt_irrefl a) (fun a b c => Int.lt_trans) hns hri fun k => by rw [hmem k, decide_eq_true_eq]
      subst e1
      have s3 := same_upd (o := SetO w a (fun j => decide (j ∈ l.map sealOf)) c) (Same.refl H2) ha
      have s4 := same_upd (o := .lst ((l.map sealOf).map V.int)) s3 (none_back s3 hp)
      refine ⟨.list ((l.map sealOf).map PyData.int), .list ((l.map sealOf).map PyData.int), .lst (SqL.of (s4 _ _ hDl)) (dpAll_ints _), .lst (SqL.of upd_same) (dpAll_ints _), shaped_ints _, shaped_ints _, _, rfl, ?_⟩
      refine eqB (SeqAt.eqv_refl _ (SeqAt.canLay_of_shaped (shaped_ints _))) ?_
      have s5 := s2.trans s4
      have hpl5 := s5 _ _ hpl
      have hsl5 := s5 _ _ hsl
      have hul5 := hul.mono (TK.of s5)
      have hwl5 := hwl.mono (TK.of s5)
      refine ⟨_, rfl, pl, rfl, ⟨us, SqL.of hpl5⟩, fun D2 hD2 => ?_⟩
      have sm2 := same_upd (o := .lst []) (Same.refl _) hD2
      refine lc_it (walk_list (xs := us)) (fun i Hc => Hc = L2.upd _ D2 (.lst [])) rfl (fun i Hc _ e => by rw [e]; exact SqL.of (sm2 _ _ hpl5)) ?_ ?_
      · rintro i x H6 H7 hi rfl ⟨rfl, hx⟩
        obtain ⟨t, ht, hA⟩ := hul5.at_ hx
        have htm := hfi t (List.mem_of_getElem? ht)
        refine ⟨rfl, _, rfl, _, rfl, t.data, Th.dataL l2, (hA.mono (TK.of sm2)).dp, .lst (SqL.of (sm2 _ _ hsl5)) (hwl5.mono (TK.of sm2)).dp, shape_fit htm.1, shaped_ths hfi2, _, rfl, ?_⟩
        rw [any_eqv htm.2]
        exact iteF rfl
      · rintro Hc rfl
        refine ⟨Nat.zero_le _, fun p3 hp3 => ?_⟩
        have s6 := same_upd (o := .lst []) sm2 (none_back sm2 hp3)
        exact ⟨.list [], .list [], .lst (SqL.of (upd2_old hp3)) .nil, .lst (SqL.of upd_same) .nil, shaped_nil, shaped_nil, q _ (s5.trans s6)⟩
end
end PV
set_option Elab.async false
set_option linter.all false
set_option maxRecDepth 100000
set_option maxHeartbeats 4000000
/-! With one thing less there is no paper. -/
namespace PV
open PySem PySem.Spec PyProof.Rows L2
theorem pe_calS {X : Cx} {CX : CXT} {k : Nat} {x : Str} {ps : List Str} {sp : Sp} {E : L2.St → XK} {p pos : Pos} {e : Expr} {es : List Expr} {t : TA} (c : Cal X.prog X.w X.K X.mg X.base CX k x ps sp) (hr : Room k X.A) (hx : ∀ σ, PassesAt CX X σ (E σ)) (ha : PA X (e :: es) t) (hg : Gl X x := by rfl) (hdb : (x == ("__debug__" : Str)) = false := by decide)
    (he : starEach (e :: es) X.env = (false, eval e X.env) :: starEach es X.env := by rfl) (hpl : (backTo pos (starEach es X.env)).any (·.1) = false := by rfl) : PE X (.Call (.Name x p) (e :: es) [] pos) (tCallS sp E t) := by
  obtain ⟨f, fd, F, hm, hk, hb⟩ := c
  exact pe_callS F hr hg hm hk hb hx ha hdb he hpl
theorem ThL.append {H : Hp} {vs2 : List V} {ts2 : List Th} (h2 : ThL H vs2 ts2) : ∀ {vs : List V} {ts : List Th}, ThL H vs ts → ThL H (vs ++ vs2) (ts ++ ts2)
  | _, _, .nil => h2
  | _, _, .cons a r => .cons a (ThL.append h2 r)
theorem ThL.take {H : Hp} : ∀ (j : Nat) {vs : List V} {ts : List Th}, ThL H vs ts → ThL H (vs.take j) (ts.take j)
  | 0, _, _, _ => .nil
  | _ + 1, _, _, .nil => .nil
  | j + 1, _, _, .cons a r => .cons a (ThL.take j r)
theorem ThL.drop {H : Hp} : ∀ (j : Nat) {vs : List V} {ts : List Th}, ThL H vs ts → ThL H (vs.drop j) (ts.drop j)
  | 0, _, _, h => h
  | _ + 1, _, _, .nil => .nil
  | j + 1, _, _, .cons _ r => ThL.drop j r
theorem cut_lo {us : List V} {j : Nat} (h : j ≤ us.length) : cutV us none (some (j : Int)) = us.take j := by
  unfold cutV
  rw [HT.sIx_none, HT.sIx_nat, Nat.min_eq_left h, List.drop_zero, Nat.sub_zero]
theorem cut_hi {us : List V} (j : Nat) : cutV us (some (j : Int)) none = us.drop j := by
  unfold cutV
  rw [HT.sIx_none, HT.sIx_nat]
  by_cases h : j ≤ us.length
  · rw [Nat.min_eq_left h, List.take_of_length_le (by rw [List.length_drop]; omega)]
  · rw [Nat.min_eq_right (by omega), List.drop_length, List.drop_of_length_le (by omega), List.take_nil]
theorem less_sub {α : Type} (l : List α) (j : Nat) : (l.take j ++ l.drop (j + 1)).Sublist l := by
  have h : l = l.take j ++ l.drop j := (List.take_append_drop j l).symm
  conv => rhs; rw [h]
  refine List.Sublist.append (List.Sublist.refl _) ?_
  rw [show l.drop (j + 1) = (l.drop j).drop 1 by rw [List.drop_drop]]
  exact List.drop_sublist _ _
def spLacks (K : Frag) : Sp := fun vs H Q _ => ∃ u pl us l root q, ∃ cell : Int, vs = [.int root, u, .ref pl, .int cell] ∧ AkAt K H u q ∧ H pl = some (.lst us) ∧ ThL H us l ∧ (l.map sealOf).Pairwise (· < ·) ∧ (∀ t ∈ l, t.fit = true) ∧ l.length ≤ 1000 ∧
  (l = [] → ∃ x s', run (q.prog root) (wit []) = .ok x s') ∧ (∀ j, j < l.length → run (q.prog root) (wit (l.take j ++ l.drop (j + 1))) = .nop) ∧ ∀ H', Same H H' → Q (.bl true) H'
def tLess (K : Frag) : WX → TS := fun W => tDrop (tCallS (spChk K) (WE W) (tCons (tVar 0) (tCons (tVar 1) (tCons (tOp rCat (tSl (rSlL K) (tVar 2) tNoPart (tPart (tVar 4))) (tSl (rSlL K) (tVar 2) (tPart (tOp (rI0 fun i j => .int (i + j)) (tVar 4) (tC (.int 1)))) tNoPart)) tNil))))
section
variable {P : Program} {w : World} {K : Frag} {mg : Str → Option Value} {base : Heap}
theorem sc_lla : FnScope ["root", "ask", "paper", "cell", "at", "lacks"] ["root", "ask", "paper", "cell"] (defScope s_law_lacks) := ⟨rfl, rfl, rfl, by decide +kernel, rfl, by decide +kernel, by decide +kernel⟩
theorem c_law_lacks (T : Txt K mg) : Cal P w K mg base CX0 16 "_law_lacks" ["root", "ask", "paper", "cell"] (spLacks K) := by
  have GC := c_checked (P := P) (w := w) (base := base) T
  refine T.d_law_lacks.cal (fun f fd F => F.ok sc_lla (fun vs H Q E h => ?_) (fun cdv A outer s H vs Q E hr h => ?_)) (fun _ _ _ _ _ _ us hl => match us, hl with | [_, _, _, _], _ => rfl)
  · obtain ⟨_, _, _, _, _, _, _, rfl, _⟩ := h
    rfl
  · obtain ⟨u, pl, us, l, root, q, cell, rfl, hA, hpl, hul, hri, hfi, hlen, he, hn, hq⟩ := h
    have hr15 : Room 15 (A.deeper (envOfC "_law_lacks" (defScope s_law_lacks) s.heap.objs.size f cdv)) := hr.mono (by decide)
    refine ⟨_, (pss_cons (ps_set (i := 4) sc_lla.nd rfl (.inl rfl) (pe_op op_mod (pe_op op_fdiv (pv 3) pe_int) (pe_callB (call_max2 rfl) (by rfl) T.b_max PyProof.Rows.boot_max (pa_cons pe_int (pa_cons (pe_callB call_len_seq (by rfl) T.b_len PySem.boot_len (pa_cons (pv 2) pa_nil)) pa_nil))))) <| pss_cons (ps_set (i := 5) sc_lla.nd rfl (.inl rfl) (pe_cmpR (op_eqD hr.units) (pv 2) (pe_lst pa_nil) (nomark _))) <| pss_cons (ps_try_only (tb := tLess K) (ts := fun _ _ _ => tAsg (tC (.bl true)) (gName 5)) rfl rfl ⟨rfl, by decide, .inl T.g_NoPaper⟩ takes0 (fun W pn xe tk _ => pss_one (ps_expr (pe_calS GC (show Room 15 _ from hr15) (fun σ => passAt tk σ) (pa_cons (pv 0) (pa_cons (pv 1) (pa_cons (pe_op op_cat (pe_slice sl_list (pv 2) po_none (po_some (pv 4))) (pe_slice sl_list (pv 2) (po_some (pe_op op_add (pv 4) pe_int)) po_none)) pa_nil)))))) (fun a oe cls d pn _ _ => pss_one (ps_set (i := 5) sc_lla.nd rfl (.inl rfl) pe_bl))) <| pss_one (ps_ret (pv 5))), ?_⟩
    have hus := hul.len
    obtain ⟨j, hj⟩ : ∃ j : Nat, cell / 7 % (if ((us.length : Nat) : Int) > 1 then ((us.length : Nat) : Int) else 1) = (j : Int) := ⟨(cell / 7 % (if ((us.length : Nat) : Int) > 1 then ((us.length : Nat) : Int) else 1)).toNat, by
      rw [Int.toNat_of_nonneg]
      split <;> exact Int.emod_nonneg _ (by omega)⟩
    have hj2 : j ≤ us.length ∧ (us.length ≠ 0 → j < us.length) := by
      by_cases h1 : ((us.length : Nat) : Int) > 1
      · rw [if_pos h1] at hj
        have := Int.emod_lt_of_pos (cell / 7) (show (0 : Int) < ((us.length : Nat) : Int) by omega)
        omega
      · rw [if_neg h1] at hj
        omega
    refine ⟨_, rfl, _, _, rfl, rfl, ⟨by decide, by decide⟩, _, rfl, pl, us, rfl, .inl (SqL.of hpl), 1, ((us.length : Nat) : Int), rfl, _, _, rfl, rfl, (by split <;> omega), ?_⟩
    show gName 4 (.int (cell / 7 % (if ((us.length : Nat) : Int) > 1 then ((us.length : Nat) : Int) else 1))) _ _ _
    rw [hj]
    refine ⟨_, rfl, Nat.zero_le _, fun p hp => ?_⟩
    have s1 : Same H (L2.upd H p (.lst [])) := same_upd (Same.refl _) hp
    have hpl1 := s1 _ _ hpl
    have hul1 := hul.mono (TK.of s1)
    refine ⟨.list (Th.dataL l), .list [], .lst (SqL.of hpl1) hul1.dp, .lst (SqL.of upd_same) .nil, shaped_ths hfi, shaped_nil, ?_⟩
    refine ⟨_, rfl, _, rfl, _, rfl, _, rfl, _, rfl, pl, us, rfl, SqL.of hpl1, fun p1 hp1 => ?_⟩
    have s2 := same_upd (o := .lst (cutV us none (some (j : Int)))) s1 (none_back s1 hp1)
    refine ⟨_, rfl, _, rfl, _, _, rfl, rfl, _, rfl, pl, us, rfl, SqL.of (s2 _ _ hpl), fun p2 hp2 => ?_⟩
    have s3 := same_upd (o := .lst (cutV us (some ((j : Int) + 1)) none)) s2 (none_back s2 hp2)
    have e1 : cutV us none (some (j : Int)) = us.take j := cut_lo hj2.1
    have e2 : cutV us (some ((j : Int) + 1)) none = us.drop (j + 1) := cut_hi (us := us) (j + 1)
    have hsub := less_sub l j
    refine ⟨p1, p2, _, _, rfl, rfl, upd2_old hp2, upd_same, ?_, fun p3 hp3 => ?_⟩
    · have := cutV_length us none (some (j : Int))
      have := cutV_length us (some ((j : Int) + 1)) none
      exact Nat.le_trans (show _ ≤ 2000 by omega) (by decide)
    rw [e1, e2] at hp3 ⊢
    rw [e1, e2] at s3
    have s4 := same_upd (o := .lst (us.take j ++ us.drop (j + 1))) s3 (none_back s3 hp3)
    refine ⟨u, p3, us.take j ++ us.drop (j + 1), l.take j ++ l.drop (j + 1), root, q, rfl, hA.nk (NK.of s4), upd_same, ThL.append ((hul.mono (TK.of s4)).drop (j + 1)) ((hul.mono (TK.of s4)).take j), hri.sublist (hsub.map _), fun t ht => hfi t (hsub.subset ht), Nat.le_trans hsub.length_le hlen, ?_⟩
    unfold wpr
    by_cases hl : l = []
    · subst hl
      obtain ⟨x, s', ex⟩ := he rfl
      rw [List.take_nil, List.drop_nil, List.append_nil, ex]
      intro H5 ut s5 _
      have er : PyData.eqv (.list (Th.dataL [])) (.list []) = true := by decide +kernel
      refine ⟨_, rfl, ?_⟩
      rw [er]
      exact hq H5 (s4.trans s5)
    · have hll : l.length ≠ 0 := fun z => hl (List.length_eq_zero_iff.mp z)
      rw [hn j (by omega)]
      intro H5 s5
      exact ⟨true, T.e_NoPaper_NoPaper, fun _ a ha => ⟨_, rfl, hq H5 (s4.trans s5)⟩, fun z => nomatch z⟩
end
end PV
set_option Elab.async false
set_option linter.all false
set_option maxRecDepth 100000
set_option maxHeartbeats 4000000
/-! What the law asks of each number. -/
namespace PV
open PySem PySem.Spec PyProof.Rows L2
theorem sql_same {K : Frag} {H H' : Hp} {a : Addr} {xs : List V} (s : Same H H') (h : SqL K H a xs) : SqL K H' a xs :=
  h.elim (fun h => .inl (h.elim (fun h => .inl (s _ _ h)) fun ⟨o, h⟩ => .inr ⟨o, s _ _ h⟩)) fun h => .inr h
def spHolds (K : Frag) : Sp := fun vs H Q E => ∃ (a : Addr) (ns : List Int), vs = [.ref a] ∧ SqL K H a (ns.map V.int) ∧ GrC K E ∧ ∀ H', Q (.bl true) H'
theorem lawAk_le (n tw root : Int) : ((lawAk n tw).prog root).le 600 := ak_le _ _ fun l h => by
  unfold lawAk at h
  split at h
  · cases h
    exact Nat.le_refl 2
  · cases h
theorem and_same {u : TT} {σ : L2.St} {Q : Bool → Hp → Prop} {c : Bool} {H : Hp} (h : ∀ H', Same H H' → Q false H') (k : c = true → (∀ H', Same H H' → Q false H') → u σ H Q) : if c = true then u σ H Q else Q false H := by
  cases c with
  | true => exact k rfl h
  | false => exact h H (Same.refl _)
theorem shaped_right : SeqAt.shaped (.str "right") = true := by decide +kernel
theorem eqv_ok {d : PyData} (h : SeqAt.shaped d = true) : PyData.eqv d d = true := SeqAt.eqv_refl d (SeqAt.canLay_of_shaped h)
section
variable {P : Program} {w : World} {K : Frag} {mg : Str → Option Value} {base : Heap}
theorem sc_lh : FnScope ["script", "twin", "keeper", "pairs", "root", "some", "cell", "answer", "paper"] ["script"] (defScope s_law_holds) := ⟨rfl, rfl, rfl, by decide +kernel, rfl, by decide +kernel, by decide +kernel⟩
theorem c_law_holds (T : Txt K mg) : Cal P w K mg base (L2.CX P w) 17 "_law_holds" ["script"] (spHolds K) := by
  have GCA := c_law_cell_at (P := P) (w := w) (base := base) T
  have GK := mk_Keeper (P := P) (w := w) (base := base) T
  have GG := c_law_grown (P := P) (w := w) (base := base) T
  have GTu := c_law_turned (P := P) (w := w) (base := base) T
  have GAw := c_awp (P := P) (w := w) (base := base) T
  have GAsk := c_law_ask (P := P) (w := w) (base := base) T
  have GPl := c_law_plain (P := P) (w := w) (base := base) T
  have GPR := c_law_paper_right (P := P) (w := w) (base := base) T
  have GC := c_checked (P := P) (w := w) (base := base) T
  have GS := c_shown (P := P) (w := w) (base := base) T
  have GL := c_law_lacks (P := P) (w := w) (base := base) T
  refine T.d_law_holds.cal (fun f fd F => F.okX sc_lh (fun vs H Q E h => ?_) (fun cdv A outer s H vs Q E hr h => ?_)) (fun _ _ _ _ _ _ us hl => match us, hl with | [_], _ => rfl)
  · obtain ⟨_, _, rfl, _⟩ := h
    rfl
  · obtain ⟨sa, ns, rfl, hsa, hE, hq⟩ := h
    have hr1 : Room 1 (A.deeper (envOfC "_law_holds" (defScope s_law_holds) s.heap.objs.size f cdv)) := hr.mono (by decide)
    have hr2 : Room 2 (A.deeper (envOfC "_law_holds" (defScope s_law_holds) s.heap.objs.size f cdv)) := hr.mono (by decide)
    have hr3 : Room 3 (A.deeper (envOfC "_law_holds" (defScope s_law_holds) s.heap.objs.size f cdv)) := hr.mono (by decide)
    have hr4 : Room 4 (A.deeper (envOfC "_law_holds" (defScope s_law_holds) s.heap.objs.size f cdv)) := hr.mono (by decide)
    have hr9 : Room 9 (A.deeper (envOfC "_law_holds" (defScope s_law_holds) s.heap.objs.size f cdv)) := hr.mono (by decide)
    have hr13 : Room 13 (A.deeper (envOfC "_law_holds" (defScope s_law_holds) s.heap.objs.size f cdv)) := hr.mono (by decide)
    have hr15 : Room 15 (A.deeper (envOfC "_law_holds" (defScope s_law_holds) s.heap.objs.size f cdv)) := hr.mono (by decide)
    refine ⟨_, (pss_cons (ps_set (i := 1) sc_lh.nd rfl (.inl rfl) (pe_op op_mod (pe_cal GCA hr1 pass0 (pa_cons (pv 0) (pa_cons pe_int pa_nil))) pe_int)) <| pss_cons (ps_set (i := 2) sc_lh.nd rfl (.inl rfl) (pe_mk0 (E := fun _ _ _ => False) GK hr2 pass0)) <| pss_cons (ps_set (i := 3) sc_lh.nd rfl (.inl rfl) pe_dnewK) <| pss_cons (ps_set (i := 4) sc_lh.nd rfl (.inl rfl) (pe_cal GG hr13 (passes_call (takes_of rfl rfl rfl rfl) (fun _ _ _ _ h => h)) (pa_cons (pv 2) (pa_cons (pv 3) (pa_cons (pe_cal GTu hr1 pass0 (pa_cons (pe_cal GCA hr1 pass0 (pa_cons (pv 0) (pa_cons pe_int pa_nil))) (pa_cons pe_int pa_nil))) (pa_cons (pv 1) pa_nil)))))) <| pss_cons (ps_set (i := 5) sc_lh.nd rfl (.inl rfl) (pe_callTy call_list_of (by rfl) T.b_list PyProof.Rows.boot_list (pa_cons (pe_methP0 (pv 2) hr1 (E := fun _ _ _ => False) pass0) pa_nil))) <| pss_cons (ps_for (passes_of rfl) rfl (pi_list (pe_slice sl_list (pv 0) (po_some pe_int) po_none)) (pg_name (i := 6) sc_lh.nd rfl (.inl rfl)) (pss_cons (ps_asg (pe_cal GAw hr15 (passes_call (takes_of rfl rfl rfl rfl) (fun _ _ _ _ h => h)) (pa_cons (pv 2) (pa_cons (pv 4) (pa_cons (pe_cal GAsk hr4 pass0 (pa_cons (pv 6) (pa_cons (pv 1) pa_nil))) pa_nil)))) (pg_tup rfl (pgs_cons (pg_name (i := 7) sc_lh.nd rfl (.inl rfl)) (pgs_cons (pg_name (i := 8) sc_lh.nd rfl (.inl rfl)) pgs_nil)))) <| pss_cons (ps_if (PW.pt (pw_and (pt_cmpR op_lt (pe_op op_mod (pv 6) pe_int) pe_int (nomark _)) (pw_and1 (pt_cmpR (op_neD hr.units) (pv 7) (pe_cal GPl hr3 pass0 (pa_cons (pv 6) (pa_cons (pv 1) (pa_cons (pv 3) pa_nil)))) (nomark _))))) (pss_one (ps_ret pe_bl)) pss_nil) <| pss_cons (ps_if (PW.pt (pw_or (pt_not (pt_val (pe_cal GPR hr9 pass0 (pa_cons (pv 8) (pa_cons (pv 5) pa_nil))))) (pw_or1 (pt_cmpR (op_neD hr.units) (pe_cal GC hr15 (passes_call (takes_of rfl rfl rfl rfl) (fun _ _ _ _ h => h)) (pa_cons (pv 4) (pa_cons (pe_cal GAsk hr4 pass0 (pa_cons (pv 6) (pa_cons (pv 1) pa_nil))) (pa_cons (pv 8) pa_nil)))) (pv 7) (nomark _))))) (pss_one (ps_ret pe_bl)) pss_nil) <| pss_cons (ps_if (PW.pt (pw_or (pt_cmpR (op_neD hr.units) (pe_cal GS hr pass0 (pa_cons (pv 4) (pa_cons (pe_cal GAsk hr4 pass0 (pa_cons (pv 6) (pa_cons (pv 1) pa_nil))) (pa_cons (pv 8) (pa_cons (pv 2) pa_nil))))) pe_str (nomark _)) (pw_or1 (pt_cmpR (op_neD hr.units) (pe_methP0 (pv 2) hr1 (E := fun _ _ _ => False) pass0) (pv 5) (nomark _))))) (pss_one (ps_ret pe_bl)) pss_nil) <| pss_one (ps_if (pt_not (pt_val (pe_cal GL hr pass0 (pa_cons (pv 4) (pa_cons (pe_cal GAsk hr4 pass0 (pa_cons (pv 6) (pa_cons (pv 1) pa_nil))) (pa_cons (pv 8) (pa_cons (pv 6) pa_nil))))))) (pss_one (ps_ret pe_bl)) pss_nil))) <| pss_one (ps_ret pe_bl)), ?_⟩
    refine ⟨_, rfl, sa, ns, 0, rfl, hsa, fun c0 => ⟨_, _, rfl, rfl, (by show (0 : Int) < 2; decide), ?_⟩⟩
    have htw : c0 % 2 = 0 ∨ c0 % 2 = 1 := mod_two
    show gName 1 (.int (c0 % 2)) _ _ _
    generalize c0 % 2 = tw at htw ⊢
    intro k dx hk hdx hne
    refine ⟨k, He.ga K "Keeper", dx, rfl, upd_same, T.c_Keeper, T.n_Keeper_by_seal, fun dk hdk => ⟨rfl, ?_⟩⟩
    have hdkk : dk ≠ k := fun z => by rw [z, upd_same] at hdk; cases hdk
    have hdk0 : H dk = none := by
      cases z : H dk with
      | none => rfl
      | some o =>
        rw [upd_ne hdkk, upd_ne (ne_of_none z hdx), z] at hdk
        cases hdk
    have s1 : Same H (L2.upd (L2.upd (L2.upd (L2.upd H dx (.own k)) k (.ins (He.ga K "Keeper") dx [])) dk (.dK [])) k (.ins (He.ga K "Keeper") dx [("by_seal", .ref dk)])) := fun a o z => by
      rw [upd_ne (ne_of_none z hk), upd_ne (ne_of_none z hdk0), upd_ne (ne_of_none z hk), upd_ne (ne_of_none z hdx)]
      exact z
    have hk1 : (L2.upd (L2.upd (L2.upd (L2.upd H dx (.own k)) k (.ins (He.ga K "Keeper") dx [])) dk (.dK [])) k (.ins (He.ga K "Keeper") dx [("by_seal", .ref dk)])) k = some (.ins (He.ga K "Keeper") dx [("by_seal", .ref dk)]) := upd_same
    have hdk1 : (L2.upd (L2.upd (L2.upd (L2.upd H dx (.own k)) k (.ins (He.ga K "Keeper") dx [])) dk (.dK [])) k (.ins (He.ga K "Keeper") dx [("by_seal", .ref dk)])) dk = some (.dK []) := by rw [upd_ne hdkk, upd_same]
    generalize L2.upd (L2.upd (L2.upd (L2.upd H dx (.own k)) k (.ins (He.ga K "Keeper") dx [])) dk (.dK [])) k (.ins (He.ga K "Keeper") dx [("by_seal", .ref dk)]) = H1 at s1 hk1 hdk1 ⊢
    have hP1 : PAt K H1 k dk dk ⟨[], [], []⟩ := ⟨⟨_, dx, .inl rfl, hk1⟩, rfl, ⟨[], hdk1, .nil⟩, rfl, rfl, kst_nil.ok, kst_nil.agr⟩
    intro dp hdp
    have hdp0 : H dp = none := none_back s1 hdp
    have s12 : Same H1 (L2.upd H1 dp (.dK [])) := same_upd (Same.refl _) hdp
    have hdpk : dp ≠ dk := fun z => by rw [z, hdk1] at hdp; cases hdp
    have hdp2 : (L2.upd H1 dp (.dK [])) dp = some (.dK []) := upd_same
    generalize L2.upd H1 dp (.dK []) = H2 at s12 hdp2 ⊢
    have s2 := s1.trans s12
    refine ⟨_, rfl, _, rfl, _, rfl, sa, ns, 1, rfl, sql_same s2 hsa, fun c1 => ⟨c1, rfl, fun H3 nl ns3 s23 hnl0 h42 hnl => ⟨_, rfl, k, dx, dk, dp, nl, ns3, tw, rfl, htw, s23 _ _ (s12 _ _ hk1), (hP1.same s12).same s23, hdpk, s23 _ _ hdp2, hnl, h42, hE, fun H4 kst T0 m kvs fr hP4 ks tl hdp4 hPD4 hml => ?_⟩⟩⟩
    have s3 := s2.trans s23
    have s4 : Same H H4 := same_of_fr s3 hdk0 hdp0 fr
    have hkk3 := s23 _ _ (s12 _ _ hk1)
    have hk4 : H4 k = some (.ins (He.ga K "Keeper") dx [("by_seal", .ref dk)]) := fr _ _ (Ne.symm hdkk) (ne_of hkk3 (s23 _ _ hdp2) (fun z => nomatch z)) hkk3
    have hown : kst.own.length < sizeLine := by
      have := ks.len
      exact Nat.lt_of_le_of_lt (show kst.own.length ≤ 4200 by omega) (by decide)
    refine ⟨_, rfl, k, _, dx, _, _, _, rfl, hk4, rfl, T.c_Keeper, T.m_Keeper_things.cal (f_things T) (fun _ _ _ _ _ _ us hl => match us, hl with | [_], _ => rfl), k, _, dx, _, dk, kst.own, rfl, hk4, T.c_Keeper, T.n_Keeper_by_seal, rfl, hP4.own, ks.ok.nd1, fun n t z => (ks.ok.own n t z).1, hown, fun H5 tp us2 l2 s45 htp0 htp hul2 hth2 => ⟨tp, us2, rfl, .inl (SqL.of htp), fun p5 hp5 => ?_⟩⟩
    have fit2 : ∀ t ∈ l2, t.fit = true := fun t ht => (ks.ok.own _ _ ((hth2.mem t).mp ht)).2
    have s56 : Same H5 (L2.upd H5 p5 (.lst us2)) := same_upd (Same.refl _) hp5
    have hp6 : (L2.upd H5 p5 (.lst us2)) p5 = some (.lst us2) := upd_same
    generalize L2.upd H5 p5 (.lst us2) = H6 at s56 hp6 ⊢
    have s46 := s45.trans s56
    refine ⟨_, rfl, 2, rfl, sa, ns.map V.int, rfl, sql_same (s4.trans s46) hsa, fun p7 hp7 => ⟨p7, rfl, ⟨_, SqL.of upd_same⟩, ?_⟩⟩
    have e7 : cutV (ns.map V.int) (some (2 : Int)) none = (ns.map V.int).drop 2 := cut_hi (us := ns.map V.int) 2
    rw [e7]
    have s67 : Same H6 (L2.upd H6 p7 (.lst ((ns.map V.int).drop 2))) := same_upd (Same.refl _) hp7
    have hp77 : (L2.upd H6 p7 (.lst ((ns.map V.int).drop 2))) p7 = some (.lst ((ns.map V.int).drop 2)) := upd_same
    generalize L2.upd H6 p7 (.lst ((ns.map V.int).drop 2)) = H7 at s67 hp77 ⊢
    have s47 := s46.trans s67
    have hk7 := s47 _ _ hk4
    have hP7 := hP4.same s47
    have hdp7 := s47 _ _ hdp4
    have hPD7 := hPD4.mono (TK.of s47)
    have hp57 := s67 _ _ hp6
    have hul7 := hul2.mono (TK.of (s56.trans s67))
    refine for_it (walk_list (xs := (ns.map V.int).drop 2)) (fun i σ Hc => ∃ b6 b7 b8 : Option V, σ = [some (.ref sa), some (.int tw), some (.ref k), some (.ref dp), some (.int T0.root), some (.ref p5), b6, b7, b8] ∧ Same H7 Hc)
      ⟨none, none, none, rfl, Same.refl _⟩ (fun i σ Hc _ ⟨_, _, _, _, s⟩ => SqL.of (s _ _ hp77)) ?_ ?_
    · rintro i x σ H8 H9 hi ⟨b6, b7, b8, rfl, s8⟩ ⟨rfl, hx⟩
      obtain ⟨c, _, rfl⟩ := List.mem_map.mp (List.mem_of_mem_drop (List.mem_of_getElem? hx))
      refine ⟨_, rfl, _, rfl, _, rfl, _, rfl, c, tw, rfl, htw, (fun z => nomatch z), fun H9 u s89 hA => ?_⟩
      have s9 := s8.trans s89
      have hle := lawAk_le c tw T0.root
      refine ⟨k, u, dx, dk, kst, T0.root, lawAk c tw, rfl, s9 _ _ hk7, hP7.same s9, hA, hle, ?_⟩
      have hw := wp_fit _ _ (rdr_ok ks.ok) (rdr_agr kst) (wp_post _ _ (post_ak T0.root (lawAk c tw)) (reader_run ks (by decide) (lawAk c tw) (lawAk_ok c tw)))
      have hrl := run_len ((lawAk c tw).prog T0.root) 600 (rdr kst) hle (rdr_ok ks.ok) (rdr_agr kst)
      unfold wpr at hw ⊢
      cases er : run ((lawAk c tw).prog T0.root) (rdr kst) with
      | nop => rw [er] at hw; exact hw.elim
      | bad => rw [er] at hw; exact hw.elim
      | clash x y =>
        rw [er] at hw
        intro H10 dd vx vy s10 hdd h1 h2
        exact hE H10 dd vx vy x y hdd h1 h2 hw.1 hw.2.1 hw.2.2
      | ok x st' =>
        rw [er] at hw
        obtain ⟨⟨ok', hbel, hpl⟩, hsh⟩ := hw
        intro H10 p ut pp us l s910 hp hd hpp hul hth
        have s10 := s9.trans s910
        have hlen : l.length ≤ 1000 := by
          have h1 := (hrl x st' er).2
          have h2 := hth.len
          have h3 : (rdr kst).noted.length = 0 := rfl
          omega
        have hin := fun (t : Th) (ht : t ∈ l) => paper_in ok' hbel hth ht
        have hfit : ∀ t ∈ l, t.fit = true := fun t ht => (hin t ht).2
        obtain ⟨w', ew⟩ := paper_again ks.ok hle er hth
        have eqx := eqv_ok hsh
        refine ⟨p, _, rfl, SqT.of hp, rfl, _, _, rfl, _, _, rfl, rfl, ?_⟩
        refine ⟨_, rfl, _, _, rfl, rfl, (by show (0 : Int) < 7; decide), _, _, rfl, rfl, _, rfl, ?_⟩
        show (if decide (c % 7 < 4) = true then _ else _)
        refine and_same (H := H10) (fun H11 s11 => ?_) (fun hc rest => ?_)
        · refine iteF ?_
          have s12 := s10.trans s11
          refine ⟨_, rfl, _, rfl, pp, p5, us, l, us2, l2, rfl, s11 _ _ hpp, hul.mono (TK.of s11), s12 _ _ hp57, hul7.mono (TK.of s12), hth.rise, fun t ht => ⟨hfit t ht, (hth2.mem t).mpr (hin t ht).1⟩, fit2, hlen, fun H12 s1112 => ⟨_, rfl, iteF ?_⟩⟩
          have s13 := s12.trans s1112
          have t13 := s11.trans s1112
          refine ⟨_, rfl, _, rfl, _, rfl, c, tw, rfl, htw, (fun z => nomatch z), fun H13 u3 s1213 hA3 => ⟨_, rfl, u3, pp, us, l, T0.root, lawAk c tw, rfl, hA3, (t13.trans s1213) _ _ hpp, hul.mono (TK.of (t13.trans s1213)), hth.rise, hfit, hlen, ?_⟩⟩
          unfold wpr
          rw [ew]
          intro H14 ut2 s1314 hd2
          have t14 := (t13.trans s1213).trans s1314
          have s14 := s10.trans t14
          refine ⟨_, rfl, x, x, hd2, dp_same t14 hd, hsh, hsh, _, rfl, ?_⟩
          rw [eqx]
          refine iteF ?_
          refine ⟨_, rfl, _, rfl, _, rfl, c, tw, rfl, htw, (fun z => nomatch z), fun H15 u4 s1415 hA4 => ⟨_, rfl, _, rfl, u4, pp, us, l, k, dx, dk, kst, T0.root, lawAk c tw, x, w', st', rfl, hA4, (t14.trans s1415) _ _ hpp, hul.mono (TK.of (t14.trans s1415)), hth.rise, hfit, hlen, (s14.trans s1415) _ _ hk7, hP7.same (s14.trans s1415), ew, er, hsh, fun H16 s1516 => ?_⟩⟩
          have t16 := (t14.trans s1415).trans s1516
          have s16 := s10.trans t16
          refine ⟨.str "right", .str "right", .str _, .str _, shaped_right, shaped_right, _, rfl, ?_⟩
          rw [eqv_ok shaped_right]
          refine iteF ?_
          refine ⟨_, rfl, k, _, dx, _, _, _, rfl, s16 _ _ hk7, rfl, T.c_Keeper, T.m_Keeper_things.cal (f_things T) (fun _ _ _ _ _ _ us hl => match us, hl with | [_], _ => rfl), k, _, dx, _, dk, kst.own, rfl, s16 _ _ hk7, T.c_Keeper, T.n_Keeper_by_seal, rfl, (hP7.same s16).own, ks.ok.nd1, fun n t z => (ks.ok.own n t z).1, hown, fun H17 tp3 us3 l3 s1617 _ htp3 hul3 hth3 => ?_⟩
          have t17 := t16.trans s1617
          have s17 := s10.trans t17
          have el : l3 = l2 := things_unique hth3 hth2
          subst el
          refine ⟨_, rfl, .list (Th.dataL l3), .list (Th.dataL l3), .lst (SqL.of htp3) hul3.dp, .lst (SqL.of (s17 _ _ hp57)) (hul7.mono (TK.of s17)).dp, shaped_ths fit2, shaped_ths fit2, _, rfl, ?_⟩
          rw [eqv_ok (shaped_ths fit2)]
          refine iteF ?_
          refine ⟨_, rfl, _, rfl, _, rfl, c, tw, rfl, htw, (fun z => nomatch z), fun H18 u5 s1718 hA5 => ⟨_, rfl, _, rfl, u5, pp, us, l, T0.root, lawAk c tw, c, rfl, hA5, (t17.trans s1718) _ _ hpp, hul.mono (TK.of (t17.trans s1718)), hth.rise, hfit, hlen, fun hl => ⟨x, w', by rw [← hl]; exact ew⟩, fun j hj => paper_lacks ks.ok hle er hth hj, fun H19 s1819 => ⟨_, rfl, iteF ⟨_, _, _, rfl, (s17.trans s1718).trans s1819⟩⟩⟩⟩
        · refine ⟨_, rfl, _, rfl, _, rfl, _, rfl, dp, kvs, m, T0, c, tw, rfl, htw, s10 _ _ hdp7, hPD7.mono (TK.of s10), by omega, tl, ks.good, of_decide_eq_true hc, fun H11 u2 e s11 hple hde => ?_⟩
          have exe : x = e := hpl e hple
          subst exe
          refine ⟨x, x, dp_same s11 hd, hde, hsh, hsh, _, rfl, ?_⟩
          rw [eqx]
          exact rest H11 s11
    · rintro σ Hc ⟨b6, b7, b8, rfl, s8⟩
      exact hq _
end
end PV
set_option Elab.async false
set_option linter.all false
set_option maxRecDepth 100000
set_option maxHeartbeats 4000000
/-! The law. -/
namespace PV
open PySem PySem.Spec PyProof.Rows L2
def spLaw (K : Frag) : Sp := fun vs H Q _ => ∃ (a : Addr) (ns : List Int), vs = [.ref a] ∧ SqL K H a (ns.map V.int) ∧ ∀ H', Q (.bl true) H'
def tHolds (K : Frag) : WX → TS := fun W => tAsg (tCallS (spHolds K) (WE W) (tCons (tVar 0) tNil)) (gName 1)
def tCaught (K : Frag) : Addr → Value → Option Addr → TS := fun a cls d => tAsg (tTup (tCons (tXf a cls d (He.ga K "Clash") "one" (tVar 3)) (tCons (tXf a cls d (He.ga K "Clash") "other" (tVar 3)) tNil))) (gName 2)
section
variable {P : Program} {w : World} {K : Frag} {mg : Str → Option Value} {base : Heap}
theorem sc_lw : FnScope ["script", "told", "clash", "e"] ["script"] (defScope s_law) := ⟨rfl, rfl, rfl, by decide +kernel, rfl, by decide +kernel, by decide +kernel⟩
theorem f_law (T : Txt K mg) (f : Addr) (fd : FuncData) (F : Fun K "law" "law" s_law f fd) : FnOk P w K mg base CX0 18 f fd ["script"] (spLaw K) := by
  have GH := c_law_holds (P := P) (w := w) (base := base) T
  have GSl := c_seal (P := P) (w := w) (base := base) T
  have XC : XfC K (He.ga K "Clash") := ⟨T.r_Clash.ga, T.r_Clash.gg, T.x_Clash.exC, T.r_Clash.hd⟩
  refine F.ok sc_lw (fun vs H Q E h => ?_) (fun cdv A outer s H vs Q E hr h => ?_)
  · obtain ⟨_, _, rfl, _⟩ := h
    rfl
  · obtain ⟨sa, ns, rfl, hsa, hq⟩ := h
    have hr8 : Room 8 (A.deeper (envOfC "law" (defScope s_law) s.heap.objs.size f cdv)) := hr.mono (by decide)
    refine ⟨_, (pss_cons (ps_set (i := 1) sc_lw.nd rfl (.inl rfl) pe_bl) <| pss_cons (ps_set (i := 2) sc_lw.nd rfl (.inl rfl) pe_non) <| pss_cons (ps_try_as (i := 3) (tb := tHolds K) (ts := tCaught K) rfl rfl sc_lw.nd rfl rfl ⟨rfl, by decide, .inl T.g_Clash⟩ takes0 (fun W pn xe tk _ => pss_one (ps_set (i := 1) sc_lw.nd rfl (.inl rfl) (pe_calS GH (show Room 17 _ from hr) (fun σ => passAt tk σ) (pa_cons (pv 0) pa_nil)))) (fun a oe cls d pn hz hf => pss_one (ps_set (i := 2) sc_lw.nd rfl (.inl rfl) (pe_tup (pa_cons (pe_xf XC T.n_Clash_one hz hf (pv 3)) (pa_cons (pe_xf XC T.n_Clash_other hz hf (pv 3)) pa_nil)))))) <| pss_cons (ps_if (pt_cmpR op_notN (pv 2) pe_non (nomark _)) (pss_one (ps_ret (pe_and (pe_cmpR (op_neD hr.units) (pe_ix ix_tup (pv 2) pe_int (fun _ _ => rfl)) (pe_ix ix_tup (pv 2) pe_int (fun _ _ => rfl)) (nomark _)) (pe_one (pe_cmpR op_eq (pe_cal GSl hr8 pass0 (pa_cons (pe_ix ix_tup (pv 2) pe_int (fun _ _ => rfl)) pa_nil)) (pe_cal GSl hr8 pass0 (pa_cons (pe_ix ix_tup (pv 2) pe_int (fun _ _ => rfl)) pa_nil)) (nomark _)))))) pss_nil) <| pss_one (ps_ret (pv 1))), ?_⟩
    refine ⟨_, rfl, sa, ns, rfl, hsa, fun H1 dd vx vy x y hdd h1 h2 hu hx hy => ⟨true, T.e_Clash_Clash, fun _ a ha => ?_, fun z => nomatch z⟩, fun H1 => ?_⟩
    · refine ⟨_, rfl, rfl, rfl, dd, _, vx, rfl, hdd, rfl, _, rfl, rfl, rfl, dd, _, vy, rfl, hdd, rfl, (by show 2 ≤ sizeLine; decide), fun p hp => ?_⟩
      have hp1 : (L2.upd H1 p (.tup [vx, vy])) p = some (.tup [vx, vy]) := upd_same
      have s1 := same_upd (o := .tup [vx, vy]) (Same.refl H1) hp
      have h1 := h1.mono (TK.of s1)
      have h2 := h2.mono (TK.of s1)
      refine ⟨_, rfl, rfl, _, rfl, iteT ?_⟩
      refine ⟨_, rfl, p, _, _, vx, rfl, rfl, SqT.of hp1, rfl, _, rfl, p, _, _, vy, rfl, rfl, SqT.of hp1, rfl, x.data, y.data, h1.dp, h2.dp, shape_fit hx, shape_fit hy, _, rfl, ?_⟩
      rw [eqv_dec, decide_eq_false hu.1]
      refine iteT ?_
      refine ⟨_, rfl, p, _, _, vx, rfl, rfl, SqT.of hp1, rfl, vx, x, rfl, h1, hx, fun H2 s2 => ?_⟩
      refine ⟨_, rfl, p, _, _, vy, rfl, rfl, SqT.of (s2 _ _ hp1), rfl, vy, y, rfl, h2.mono (TK.of s2), hy, fun H3 s3 => ?_⟩
      refine ⟨rfl, ?_⟩
      rw [hu.2, decide_eq_true rfl]
      exact hq H3
    · exact ⟨_, rfl, rfl, _, rfl, iteF ⟨_, rfl, hq H1⟩⟩
end
end PV
set_option Elab.async false
set_option linter.all false
set_option maxRecDepth 100000
set_option maxHeartbeats 0
/-! The end. -/
namespace PV
open PySem PySem.Spec PyProof.Rows L2
theorem law_facts {P : Program} {w : World} {K : PySem.W.Frag} {h : Heap} {mg : Str → Option Value} {f : Addr} (X : K.In h) (G : h.Ns mainGlobals mg) (hfa : mg ("law" : Str) = some (.ref f)) (c : obsX K = valX) :
    ∃ fd : FuncData, (∀ (s : Shared) (v : Value), BindsTo s fd ⟨[v], []⟩ [("script", v)]) ∧ ∀ base : Heap, K.In base → base.Ns mainGlobals mg → FnOk P w K mg base CX0 18 f fd ["script"] (spLaw K) := by
  have T := txt_ok X G (says_of c)
  obtain ⟨fd, F⟩ := law_def (says_of c)
  have e := hfa.symm.trans (He.glo_ok X G ((says_of c).1.fact 47 (f := .glo "law") rfl))
  cases e
  have b := FunD.bindsA (ps := ["script"]) F fun _ _ _ _ _ _ us hl => match us, hl with | [_], _ => rfl
  exact ⟨fd, fun s v => b s [v] rfl, fun base _ _ => f_law T _ _ (fun_of F)⟩
end PV
open PySem PySem.W PySem.Calls PyProof.Rows
theorem PySem.Challenge.cw_papervault_k52_honest_papers_are_right_holds : PySem.Challenge.rw_papervault_k52_honest_papers_are_right.Holds := by
  w_on; o_law
  refine HandSHeadRun.head_any (r := OpenLaw.row PySem.Challenge.rw_papervault_k52_honest_papers_are_right) (q := view (OpenLaw.row PySem.Challenge.rw_papervault_k52_honest_papers_are_right).prog [89]) (H := PV.hookX) (ob := PV.obR) (M := 20000) (loose := PV.names_) (d := HandSHeadRun.topDef (OpenLaw.row PySem.Challenge.rw_papervault_k52_honest_papers_are_right).prog 89) (kwd := []) PV.obR_eq
    (by kernel_rfl) (fun s => by kernel_rfl) PV.run_ (by kernel_rfl) (by kernel_rfl) (by kernel_rfl) (by rfl) (by first | assumption | decide +kernel) (by decide +kernel) ⟨rfl, rfl, rfl, rfl, rfl, by decide +kernel⟩ ?hw ?hc
  case hw => w_witness2
  case hc =>
    refine L2.walk_ofE (l := PySem.Challenge.rw_papervault_k52_honest_papers_are_right) (n := 63) (k := 18) (x := "script") (CX := L2.CX0) rfl (by decide) (by kernel_rfl) ⟨rfl, by decide, by decide⟩ ?F (fun _ _ _ _ z => z)
    intro w mg fa h Y G hmg0
    obtain ⟨K, KX, c⟩ := Y
    have hmg : mg ("law" : PySem.Str) = some (.ref fa) := by
      have e : (HandSHeadRun.topDef (OpenLaw.row PySem.Challenge.rw_papervault_k52_honest_papers_are_right).prog 89).name = ("law" : PySem.Str) := by kernel_rfl
      rw [← e]
      exact hmg0
    obtain ⟨fd, hb, hF⟩ := PV.law_facts (P := (PySem.Challenge.rw_papervault_k52_honest_papers_are_right).prog) (w := w) KX G hmg c
    exact ⟨K, fd, PV.spLaw K, KX, hb, fun H a ns hl _ hS => ⟨a, ns, rfl, hS, fun _ => rfl⟩, hF⟩
