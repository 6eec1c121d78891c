import PyProof.Rows.All
import Wide.All
import OpenK.AllK
import Wide.FinOn
import HandS.ForMost
import HandS.IsInst
import HandS.WideBits
import HandS.Walk
import PyProof.ReprRoads
import PyProof.ReprText
import HandS.ForExc
import PyProof.ReprBulk
import HandS.ExcInit
import HandS.ExcField
import HandS.ExcOwn
import HandS.ExcIs
import HandS.Defaults
import HandS.ClsMeth
import HandS.Wide
import HandS.WordsExc
import KE.KExcIs
import HandS.Gcd
import HandS.Text
import HandS.FStr
import KE.KExcInit
import HandS.Star
import HandS.TryMany
import HandS.Style
import HandS.Property
import HandS.DictComp
import HandS.TupAny
import OpenK.KOps
import HandS.List
import HandS.Deep
import HandS.More
import KE.DataCmp
import KE.GoesEnum
import KE.KRevSl
import KE.KParC
import HandS.Iter
import HandS.TryOnly
import HandS.SortKw
import KE.SortKeyHeap
import KE.GoesZip
import KE.GoesMore
import KE.GoesEnumKw
import HandS.Zip
import HandS.TupMul
import PyProof.InstEq
import HandS.ExcInitHot
import HandS.SuiteRaise
import HandS.RaiseFrom
import KE.KCallOwn
import HandS.ReplaceLit
import HandS.Conv
import HandS.Replace
import PyProof.Rows.StrDouble
import HandS.ListItems
import HandS.Finally
import HandS.TupSets
import HandS.SetKeys
import HandS.GenList
import KE.KStateDown
import HandS.Head0
import HandS.Head1
import HandS.Head2
import HandS.HeadEnd
import HandS.HeadHook1
import HandS.HeadHook2
import HandS.HeadHook3
import HandS.HeadNt
import HandS.Dict
import HandS.MakeKwOnly
import KE.KDictZip
import KE.KTurns
import KE.KItemsList
import HandS.ExcValue
import HandS.MakeKw
import PySem.Challenge.RW_lastheld_k18_errors_made
set_option linter.all false
set_option maxHeartbeats 1000000
/-! LA1: spaces of rational vectors, leading places, canonical rows -/
namespace LA
abbrev Vec := Nat → Rat
def vzero : Vec := fun _ => 0
structure Sub (U : Vec → Prop) : Prop where
  zero : U vzero
  lin : ∀ v u q, U v → U u → U fun i => v i + q * u i
inductive Span (S : Vec → Prop) : Vec → Prop
  | zero : Span S vzero
  | add (v r : Vec) (q : Rat) : Span S v → S r → Span S fun i => v i + q * r i
theorem Span.sub (S : Vec → Prop) : Sub (Span S) := by
  refine ⟨.zero, fun v u q hv hu => ?_⟩
  induction hu with
  | zero =>
    have e : (fun i => v i + q * vzero i) = v := by funext i; show v i + q * 0 = v i; grind
    rw [e]
    exact hv
  | add u r q' _ hr ih =>
    have e : (fun i => v i + q * (u i + q' * r i)) = fun i => (fun i => v i + q * u i) i + (q * q') * r i := by
      funext i
      grind
    rw [e]
    exact .add _ _ _ ih hr
theorem Span.one {S : Vec → Prop} {r : Vec} (h : S r) : Span S r := by
  have := Span.add vzero r 1 .zero h
  have e : (fun i => vzero i + 1 * r i) = r := by funext i; show 0 + 1 * r i = r i; grind
  rwa [e] at this
theorem Sub.add {U : Vec → Prop} (h : Sub U) {v u : Vec} (hv : U v) (hu : U u) : U fun i => v i + u i := by
  have := h.lin v u 1 hv hu
  have e : (fun i => v i + 1 * u i) = fun i => v i + u i := by funext i; grind
  rwa [e] at this
def row (r : List Int) : Vec := fun i => ((r.getD i 0 : Int) : Rat)
def spanL (rs : List (List Int)) : Vec → Prop := Span fun v => ∃ r ∈ rs, v = row r
/-! ### leading places -/
def Lead (v : Vec) (p : Nat) : Prop := v p ≠ 0 ∧ ∀ j, j < p → v j = 0
theorem lead_one {v : Vec} {p q : Nat} (h1 : Lead v p) (h2 : Lead v q) : p = q := by
  by_cases h : p < q
  · exact absurd (h2.2 p h) h1.1
  · by_cases h' : q < p
    · exact absurd (h1.2 q h') h2.1
    · omega
def Piv (U : Vec → Prop) (p : Nat) : Prop := ∃ v, U v ∧ Lead v p
structure Can (U : Vec → Prop) (p : Nat) (r : Vec) : Prop where
  mem : U r
  lead : Lead r p
  van : ∀ q, q ≠ p → Piv U q → r q = 0
end LA
set_option linter.all false
set_option maxHeartbeats 1000000
/-! LA2: rows of ints: pivot, common divisor, primitive rows -/
namespace LA
abbrev at' (r : List Int) (i : Nat) : Int := r.getD i 0
def pivL (r : List Int) : Option Nat := r.findIdx? fun e => decide (e ≠ 0)
def gcdL (r : List Int) : Nat := r.foldl (fun g e => Nat.gcd g e.natAbs) 0
theorem row_zero {r : List Int} {i : Nat} : row r i = 0 ↔ at' r i = 0 := by
  show ((at' r i : Int) : Rat) = 0 ↔ _
  exact Rat.intCast_eq_zero_iff
theorem getD_lt {r : List Int} {i : Nat} (h : i < r.length) : at' r i = r[i] := by
  show r.getD i 0 = _
  rw [List.getD_eq_getElem?_getD, List.getElem?_eq_getElem h]
  rfl
theorem getD_ge {r : List Int} {i : Nat} (h : r.length ≤ i) : at' r i = 0 := by
  show r.getD i 0 = _
  rw [List.getD_eq_getElem?_getD, List.getElem?_eq_none h]
  rfl
theorem piv_some {r : List Int} {p : Nat} : pivL r = some p ↔ Lead (row r) p := by
  unfold pivL Lead
  rw [List.findIdx?_eq_some_iff_getElem]
  constructor
  · rintro ⟨h, h1, h2⟩
    refine ⟨fun e => ?_, fun j hj => ?_⟩
    · rw [row_zero, getD_lt h] at e
      simp [e] at h1
    · rw [row_zero, getD_lt (by omega)]
      have := h2 j hj
      simpa using this
  · rintro ⟨h1, h2⟩
    have hp : p < r.length := by
      by_cases h : p < r.length
      · exact h
      · exact absurd (row_zero.mpr (getD_ge (by omega))) h1
    refine ⟨hp, ?_, fun j hj => ?_⟩
    · have : at' r p ≠ 0 := fun e => h1 (row_zero.mpr e)
      rw [getD_lt hp] at this
      simpa using this
    · have := row_zero.mp (h2 j hj)
      rw [getD_lt (by omega)] at this
      simpa using this
theorem piv_lt {r : List Int} {p : Nat} (h : pivL r = some p) : p < r.length ∧ at' r p ≠ 0 := by
  have l := piv_some.mp h
  have n : at' r p ≠ 0 := fun e => l.1 (row_zero.mpr e)
  exact ⟨by
    by_cases q : p < r.length
    · exact q
    · exact absurd (getD_ge (by omega)) n, n⟩
/-! ### common divisors -/
/-! ### primitive rows -/
structure Prim (r : List Int) : Prop where
  ex : ∃ p, pivL r = some p ∧ 0 < at' r p
  one : gcdL r = 1
def signD (r : List Int) : Int := match pivL r with
  | some p => if at' r p < 0 then -((gcdL r : Nat) : Int) else ((gcdL r : Nat) : Int)
  | none => 1
def primL (r : List Int) : List Int := r.map fun e => e.fdiv (signD r)
end LA
set_option linter.all false
set_option maxHeartbeats 1000000
/-! LA3: reduced families of rows; the normal form is one -/
namespace LA
abbrev Apart (r s : List Int) : Prop := ∀ p, (pivL r = some p → at' s p = 0) ∧ (pivL s = some p → at' r p = 0)
structure Red (w : Nat) (U : Vec → Prop) (F : List (List Int)) : Prop where
  len : ∀ r ∈ F, r.length = w
  prim : ∀ r ∈ F, Prim r
  mem : ∀ r ∈ F, U (row r)
  gen : ∀ v, U v → spanL F v
  apart : F.Pairwise Apart
theorem pair_at {F : List (List Int)} (h : F.Pairwise Apart) : ∀ {r s : List Int}, r ∈ F → s ∈ F → r ≠ s → ∀ p, pivL r = some p → at' s p = 0 := by
  induction F with
  | nil => intro r s m; cases m
  | cons x F ih =>
    rw [List.pairwise_cons] at h
    intro r s mr ms ne p hp
    rcases List.mem_cons.mp mr with e1 | mr'
    · rcases List.mem_cons.mp ms with e2 | ms'
      · exact absurd (e1.trans e2.symm) ne
      · subst e1
        exact (h.1 s ms' p).1 hp
    · rcases List.mem_cons.mp ms with e2 | ms'
      · subst e2
        exact (h.1 r mr' p).2 hp
      · exact ih h.2 mr' ms' ne p hp
theorem apart_ne {r s : List Int} (hr : Prim r) (h : Apart r s) : r ≠ s := fun e => by
  subst e
  obtain ⟨p, hp, h0⟩ := hr.ex
  have := (h p).1 hp
  omega
theorem Red.nodup {w : Nat} {U : Vec → Prop} {F : List (List Int)} (h : Red w U F) : F.Nodup := by
  have : ∀ G : List (List Int), (∀ r ∈ G, Prim r) → G.Pairwise Apart → G.Nodup := by
    intro G
    induction G with
    | nil => intro _ _; exact List.nodup_nil
    | cons x G ih =>
      intro hp ha
      rw [List.pairwise_cons] at ha
      rw [List.nodup_cons]
      exact ⟨fun m => apart_ne (hp x List.mem_cons_self) (ha.1 x m) rfl, ih (fun r m => hp r (List.mem_cons_of_mem _ m)) ha.2⟩
  exact this F h.prim h.apart
/-! ### sums of multiples -/
def comb : List (List Int) → (List Int → Rat) → Vec
  | [], _ => vzero
  | r :: F, c => fun i => c r * row r i + comb F c i
theorem comb_zero {F : List (List Int)} {c : List Int → Rat} {i : Nat} : (∀ s ∈ F, c s * row s i = 0) → comb F c i = 0 := by
  induction F with
  | nil => intro _; rfl
  | cons x F ih =>
    intro h
    show c x * row x i + comb F c i = 0
    rw [h x List.mem_cons_self, ih fun s m => h s (List.mem_cons_of_mem _ m)]
    grind
theorem comb_one {F : List (List Int)} {c : List Int → Rat} {i : Nat} {r : List Int} : F.Nodup → r ∈ F → (∀ s ∈ F, s ≠ r → row s i = 0) → comb F c i = c r * row r i := by
  induction F with
  | nil => intro _ m; cases m
  | cons x F ih =>
    intro nd m h
    rw [List.nodup_cons] at nd
    show c x * row x i + comb F c i = _
    by_cases e : x = r
    · subst e
      rw [comb_zero fun s ms => by rw [h s (List.mem_cons_of_mem _ ms) (fun z => nd.1 (z ▸ ms))]; grind]
      grind
    · have m' : r ∈ F := by
        rcases List.mem_cons.mp m with z | z
        · exact absurd z.symm e
        · exact z
      rw [h x List.mem_cons_self e, ih nd.2 m' fun s ms => h s (List.mem_cons_of_mem _ ms)]
      grind
theorem comb_upd {F : List (List Int)} {c : List Int → Rat} {r : List Int} {q : Rat} : F.Nodup → r ∈ F → ∀ i, comb F (fun s => if s = r then c s + q else c s) i = comb F c i + q * row r i := by
  induction F with
  | nil => intro _ m; cases m
  | cons x F ih =>
    intro nd m i
    rw [List.nodup_cons] at nd
    show (if x = r then c x + q else c x) * row x i + comb F _ i = c x * row x i + comb F c i + q * row r i
    by_cases e : x = r
    · subst e
      have : ∀ G : List (List Int), x ∉ G → comb G (fun s => if s = x then c s + q else c s) i = comb G c i := by
        intro G
        induction G with
        | nil => intro _; rfl
        | cons y G ihG =>
          intro hn
          rw [List.mem_cons, not_or] at hn
          show (if y = x then c y + q else c y) * row y i + comb G _ i = c y * row y i + comb G c i
          rw [if_neg (fun z => hn.1 z.symm), ihG hn.2]
      rw [if_pos rfl, this F nd.1]
      grind
    · have m' : r ∈ F := by
        rcases List.mem_cons.mp m with z | z
        · exact absurd z.symm e
        · exact z
      rw [if_neg e, ih nd.2 m' i]
      grind
theorem span_comb {F : List (List Int)} (nd : F.Nodup) {v : Vec} (h : spanL F v) : ∃ c, ∀ i, v i = comb F c i := by
  induction h with
  | zero =>
    refine ⟨fun _ => 0, fun i => ?_⟩
    rw [comb_zero fun s _ => by grind]
    rfl
  | add v r q _ hr ih =>
    obtain ⟨c, hc⟩ := ih
    obtain ⟨s, ms, rfl⟩ := hr
    refine ⟨fun t => if t = s then c t + q else c t, fun i => ?_⟩
    rw [comb_upd nd ms, ← hc i]
variable {w : Nat} {U : Vec → Prop} {F G : List (List Int)}
theorem Red.comb_piv (h : Red w U F) {c : List Int → Rat} {r : List Int} {p : Nat} (m : r ∈ F) (hp : pivL r = some p) : comb F c p = c r * row r p :=
  comb_one h.nodup m fun s ms ne => row_zero.mpr (pair_at h.apart m ms ne.symm p hp)
theorem Red.piv (h : Red w U F) {p : Nat} : Piv U p ↔ ∃ r ∈ F, pivL r = some p := by
  constructor
  · rintro ⟨v, hv, hl⟩
    obtain ⟨c, hc⟩ := span_comb h.nodup (h.gen v hv)
    have key : ∀ n, (∀ s ∈ F, ∀ q, pivL s = some q → q < n → c s = 0) ∨ ∃ s ∈ F, ∃ q, pivL s = some q ∧ c s ≠ 0 ∧ ∀ t ∈ F, ∀ q', pivL t = some q' → q' < q → c t = 0 := by
      intro n
      induction n with
      | zero => exact .inl fun s m q hq h => absurd h (Nat.not_lt_zero q)
      | succ n ih =>
        rcases ih with ih | ih
        · by_cases e : ∃ s ∈ F, pivL s = some n ∧ c s ≠ 0
          · obtain ⟨s, ms, hs, hn⟩ := e
            exact .inr ⟨s, ms, n, hs, hn, ih⟩
          · refine .inl fun s ms q hq hlt => ?_
            by_cases e' : q = n
            · subst e'
              by_cases z : c s = 0
              · exact z
              · exact absurd ⟨s, ms, hq, z⟩ e
            · exact ih s ms q hq (by omega)
        · exact .inr ih
    have hpiv : ∀ s ∈ F, ∃ q, pivL s = some q ∧ q < w := fun s ms => by
      obtain ⟨q, hq, _⟩ := (h.prim s ms).ex
      exact ⟨q, hq, by have := (piv_lt hq).1; rw [h.len s ms] at this; exact this⟩
    rcases key w with k | ⟨s, ms, q, hq, hn, hmin⟩
    · exact absurd (by
        rw [hc p]
        exact comb_zero fun s ms => by
          obtain ⟨q, hq, hw⟩ := hpiv s ms
          rw [k s ms q hq hw]
          grind) hl.1
    · refine ⟨s, ms, ?_⟩
      have l2 : Lead v q := by
        refine ⟨?_, fun j hj => ?_⟩
        · rw [hc q, h.comb_piv ms hq]
          intro z
          have := (piv_some.mp hq).1
          grind
        · rw [hc j]
          refine comb_zero fun t mt => ?_
          obtain ⟨q', hq', _⟩ := hpiv t mt
          by_cases e : q' < q
          · rw [hmin t mt q' hq' e]
            grind
          · rw [(piv_some.mp hq').2 j (by omega)]
            grind
      rw [lead_one hl l2]
      exact hq
  · rintro ⟨r, m, hp⟩
    exact ⟨row r, h.mem r m, piv_some.mp hp⟩
theorem Red.can (h : Red w U F) {r : List Int} {p : Nat} (m : r ∈ F) (hp : pivL r = some p) : Can U p (row r) := by
  refine ⟨h.mem r m, piv_some.mp hp, fun q ne hq => ?_⟩
  obtain ⟨s, ms, hs⟩ := h.piv.mp hq
  refine row_zero.mpr (pair_at h.apart ms m (fun e => ne ?_) q hs)
  subst e
  rw [hp] at hs
  injection hs with hs
  exact hs.symm
def Rise (F : List (List Int)) : Prop := F.Pairwise fun r s => ∀ p q, pivL r = some p → pivL s = some q → p < q
structure NF (w : Nat) (U : Vec → Prop) (F : List (List Int)) : Prop where
  red : Red w U F
  rise : Rise F
end LA
set_option linter.all false
set_option maxHeartbeats 1000000
/-! LA4: rows cleared one after another; the reduced family of a list of rows -/
namespace LA
def foundL (r lead : List Int) (p : Nat) : List Int := (r.zip lead).map fun q => at' lead p * q.1 - at' r p * q.2
def clr (r lead : List Int) : List Int := match pivL lead with
  | none => r
  | some p => if at' r p = 0 then r else match pivL (foundL r lead p) with
    | none => foundL r lead p
    | some _ => primL (foundL r lead p)
def restL (F : List (List Int)) (r : List Int) : List Int := F.foldl clr r
def stepL (F : List (List Int)) (r : List Int) : List (List Int) := match pivL (restL F r) with
  | none => F
  | some _ => (F.map fun e => clr e (primL (restL F r))) ++ [primL (restL F r)]
def redL (rs : List (List Int)) : List (List Int) := rs.foldl stepL []
theorem row_ne {r : List Int} {i : Nat} (h : at' r i ≠ 0) : row r i ≠ 0 := fun e => h (row_zero.mp e)
variable {w : Nat} {F : List (List Int)}
structure Clears (w : Nat) (F : List (List Int)) : Prop where
  len : ∀ l ∈ F, l.length = w
  piv : ∀ l ∈ F, ∃ p, pivL l = some p
theorem Clears.tail {l : List Int} (h : Clears w (l :: F)) : Clears w F := ⟨fun x m => h.len x (List.mem_cons_of_mem _ m), fun x m => h.piv x (List.mem_cons_of_mem _ m)⟩
/-! ### one more row -/
/-! ### sorted by their pivots -/
end LA
set_option linter.all false
set_option maxHeartbeats 1000000
/-! LA5: small combinations of rows by the box principle -/
namespace LA
def box : Nat → Nat → List (List Int)
  | 0, _ => [[]]
  | r + 1, N => (List.range (N + 1)).flatMap fun x => (box r N).map fun t => ((x : Nat) : Int) :: t
/-! ### sums of multiples of rows, by ints -/
def lin : List Int → List (List Int) → Nat → Int
  | c :: cs, a :: as, i => c * at' a i + lin cs as i
  | _, _, _ => 0
def subL (c d : List Int) : List Int := (c.zip d).map fun q => q.1 - q.2
theorem sub_zero : ∀ {c d : List Int}, c.length = d.length → (∀ x ∈ subL c d, x = 0) → c = d
  | [], [], _, _ => rfl
  | x :: c, y :: d, h, z => by
    have h0 := z (x - y) List.mem_cons_self
    rw [sub_zero (c := c) (d := d) (by simpa using h) fun u m => z u (List.mem_cons_of_mem _ m)]
    congr 1
    omega
end LA
set_option linter.all false
set_option maxHeartbeats 1000000
/-! LA6: how great the numbers of the normal form are -/
namespace LA
variable {w : Nat}
/-! ### such rows are independent -/
/-! ### the bounds -/
def smallB (k B : Nat) : Nat := k * ((2 * k * B + 1) ^ (k - 1) * B)
/-! ### what is left of a row, on its way -/
end LA
set_option linter.all false
set_option maxHeartbeats 1000000
set_option exponentiation.threshold 20000
/-! LA7: bounds as numbers; what is asked of rows for their normal form -/
namespace LA
variable {w : Nat} {U : Vec → Prop} {F G : List (List Int)}
structure NRok (w : Nat) (rs : List (List Int)) : Prop where
  len : ∀ r ∈ rs, r.length = w
  wide : w ≤ 12
  many : rs.length ≤ 1000
  ex : ∃ B, (∀ r ∈ rs, ∀ i, (at' r i).natAbs ≤ B) ∧ (∀ n F, Red w (spanL (rs.take n)) F → ∀ x ∈ F, ∀ i, (at' x i).natAbs ≤ B) ∧ smallB (w + 1) B * (2 * B) < 2 ^ 8900
end LA
set_option linter.all false
set_option maxHeartbeats 1000000
/-! LA8: an elimination with rational numbers, and the sizes of what it meets -/
namespace LA
def vat (v : List Rat) (i : Nat) : Rat := v.getD i 0
def qof (r : List Int) : List Rat := r.map fun (e : Int) => (e : Rat)
theorem vat_lt {v : List Rat} {i : Nat} (h : i < v.length) : vat v i = v[i] := by
  unfold vat
  rw [List.getD_eq_getElem?_getD, List.getElem?_eq_getElem h]
  rfl
theorem vat_ge {v : List Rat} {i : Nat} (h : v.length ≤ i) : vat v i = 0 := by
  unfold vat
  rw [List.getD_eq_getElem?_getD, List.getElem?_eq_none h]
  rfl
def qsub (v l : List Rat) (f : Rat) : List Rat := (v.zip l).map fun q => q.1 + -1 * f * q.2
def qdiv (v : List Rat) (f : Rat) : List Rat := v.map (· / f)
def pivQ (v : List Rat) : Option Nat := v.findIdx? fun e => !decide (e = 0)
theorem pivQ_of {v : List Rat} {p : Nat} (h0 : vat v p ≠ 0) (h1 : ∀ j, j < p → vat v j = 0) : pivQ v = some p := by
  unfold pivQ
  rw [List.findIdx?_eq_some_iff_getElem]
  have hp : p < v.length := by
    by_cases h : p < v.length
    · exact h
    · exact absurd (vat_ge (by omega)) h0
  refine ⟨hp, ?_, fun j hj => ?_⟩
  · rw [vat_lt hp] at h0
    simpa using h0
  · have := h1 j hj
    rw [vat_lt (by omega)] at this
    simpa using this
/-! ### one column -/
abbrev QSt := List (List Rat) × List (List Rat)
def someQ (st : QSt) (a : Nat) : List (List Rat) := st.1.filter fun r => !decide (vat r a = 0)
def qstep (st : QSt) (a : Nat) : QSt := match someQ st a with
  | [] => st
  | s :: _ => (st.1.map fun r => qsub r (qdiv s (vat s a)) (vat r a), (st.2.map fun r => qsub r (qdiv s (vat s a)) (vat r a)) ++ [qdiv s (vat s a)])
def qrun (ls : List (List Rat)) (n : Nat) : QSt := (List.range n).foldl qstep (ls, [])
structure Elim (w : Nat) (rs : List (List Int)) (a : Nat) (st : QSt) (as : List (List Int)) (ps : List Nat) : Prop where
  as_mem : ∀ x ∈ as, x ∈ rs
  len : as.length = ps.length
  ind : ∀ cs : List Int, cs.length = as.length → (∀ i, lin cs as i = 0) → ∀ c ∈ cs, c = 0
  det : ∀ v, spanL as v → (∀ p ∈ ps, v p = 0) → ∀ i, v i = 0
  ps_lt : ∀ p ∈ ps, p < a
  nd : ps.Nodup
  fnd : ∀ f ∈ st.2, f.length = w ∧ spanL as (vat f) ∧ ∃ p ∈ ps, vat f p = 1 ∧ (∀ i, i < p → vat f i = 0) ∧ (∀ q ∈ ps, q ≠ p → vat f q = 0)
  pv : st.2.map pivQ = ps.map some
  lft : ∀ l ∈ st.1, l.length = w ∧ (∃ o ∈ rs, spanL as fun i => row o i - vat l i) ∧ (∀ p ∈ ps, vat l p = 0) ∧ ∀ i, i < a → vat l i = 0
  cov : ∀ o ∈ rs, ∃ l ∈ st.1, spanL as fun i => row o i - vat l i
section
variable {w a : Nat} {rs as : List (List Int)} {ps : List Nat} {st : QSt}
end
end LA
set_option linter.all false
set_option maxHeartbeats 1000000
/-! LA9: sizes in the elimination; what is left of a row; sums of multiples -/
namespace LA
def SmallQ (M : Nat) (q : Rat) : Prop := ∃ c s : Int, c ≠ 0 ∧ c.natAbs ≤ M ∧ s.natAbs ≤ M ∧ q * (c : Rat) = (s : Rat)
theorem SmallQ.up {M N : Nat} {q : Rat} (h : SmallQ M q) (l : M ≤ N) : SmallQ N q := by
  obtain ⟨c, s, h0, h1, h2, h3⟩ := h
  exact ⟨c, s, h0, Nat.le_trans h1 l, Nat.le_trans h2 l, h3⟩
section
variable {w a B : Nat} {rs as : List (List Int)} {ps : List Nat} {st : QSt}
def unitL (w p : Nat) : List Int := (List.range w).map fun i => if i = p then 1 else 0
/-! ### what is left of a row -/
def qred1 (v f : List Rat) : List Rat := qsub v f (vat v ((pivQ f).getD 0))
def qrest (fs : List (List Rat)) (v : List Rat) : List Rat := fs.foldl qred1 v
theorem Elim.at_piv (h : Elim w rs a st as ps) {i : Nat} (hi : i < st.2.length) : ∃ hp : i < ps.length, pivQ st.2[i] = some ps[i] ∧ vat st.2[i] ps[i] = 1 ∧ (∀ j, j < ps[i] → vat st.2[i] j = 0) ∧ ∀ q ∈ ps, q ≠ ps[i] → vat st.2[i] q = 0 := by
  have hl : st.2.length = ps.length := by
    have := congrArg List.length h.pv
    rwa [List.length_map, List.length_map] at this
  have hp : i < ps.length := by omega
  have e : pivQ st.2[i] = some ps[i] := by
    have := congrArg (fun l => l[i]?) h.pv
    rw [List.getElem?_map, List.getElem?_map, List.getElem?_eq_getElem hi, List.getElem?_eq_getElem hp] at this
    injection this
  obtain ⟨_, _, p, mp, f3, f4, f5⟩ := h.fnd _ (List.getElem_mem hi)
  have e2 : pivQ st.2[i] = some p := pivQ_of (by rw [f3]; decide) f4
  rw [e] at e2
  injection e2 with e2
  subst e2
  exact ⟨hp, e, f3, f4, f5⟩
/-! ### sums of multiples of the rows in normal form -/
def qacc (v : List Rat) (q : Rat) (l : List Rat) : List Rat := (v.zip l).map fun e => e.1 + q * e.2
def coef (o n : List Int) : Rat := row o ((pivL n).getD 0) / row n ((pivL n).getD 0)
def qsum (o : List Int) (F : List (List Int)) (v : List Rat) : List Rat := F.foldl (fun v n => qacc v (coef o n) (qof n)) v
theorem Elim.lead (h : Elim w rs a st as ps) {p : Nat} (m : p ∈ ps) : Piv (spanL as) p := by
  have hl : st.2.length = ps.length := by
    have := congrArg List.length h.pv
    rwa [List.length_map, List.length_map] at this
  obtain ⟨i, hi, rfl⟩ := List.getElem_of_mem m
  have hi' : i < st.2.length := by omega
  obtain ⟨_, _, f3, f4, _⟩ := h.at_piv hi'
  obtain ⟨_, g2, _⟩ := h.fnd _ (List.getElem_mem hi')
  exact ⟨vat st.2[i], g2, by rw [f3]; decide, f4⟩
end
end LA
set_option linter.all false
set_option maxHeartbeats 1000000
/-! LA10: the rows that an elimination leaves are those of the normal form, over their pivots -/
namespace LA
section
variable {w : Nat} {rs as : List (List Int)} {ps : List Nat} {st : QSt} {F : List (List Int)}
def pv0 (n : List Int) : Nat := (pivL n).getD 0
def leadQ (n : List Int) : List Rat := qdiv (qof n) (row n (pv0 n))
end
end LA
set_option linter.all false
set_option maxHeartbeats 1000000
/-! LA11: the denominators of a row over its pivot -/
namespace LA
def lowN (v : List Rat) : Nat := v.foldl (fun l q => l * q.den / Nat.gcd l q.den) 1
def gcdI (r : List Int) : Nat := r.foldl (fun g e => Int.gcd (g : Nat) e) 0
end LA
set_option linter.all false
set_option maxHeartbeats 1000000
/-! LA12: each list of rows has a normal form -/
namespace LA
end LA
set_option linter.all false
set_option maxHeartbeats 1000000
set_option exponentiation.threshold 20000
/-! LA13: the rows of a normal form have a normal form -/
namespace LA
variable {w : Nat} {U : Vec → Prop} {F : List (List Int)}
end LA
/-! LA14: columns in another sequence; bounds for rows of subspaces that are cut out -/
set_option linter.all false
namespace LA
def permL (o : List Nat) (r : List Int) : List Int := o.map (at' r)
/-! ### the bound -/
end LA
/-! LA15: normal forms of rows in another sequence, with units; how many there are -/
set_option linter.all false
set_option maxHeartbeats 1000000
set_option exponentiation.threshold 20000
namespace LA
variable {w : Nat} {rs F G : List (List Int)} {B : Nat} {o : List Nat}
def FreeR (rs us : List (List Int)) : Prop := ∀ k (h : k < us.length), ¬ spanL (rs ++ us.take k) (row us[k])
end LA
/-! LA16: a vector of a space as the sum of multiplied rows of its normal form: sizes of the partial sums -/
set_option linter.all false
set_option maxHeartbeats 1000000
set_option exponentiation.threshold 20000
namespace LA
variable {w : Nat} {rs F G : List (List Int)} {B : Nat} {o : List Nat}
/-! ### the sums -/
def qsumT (t : List Int → Rat) (F : List (List Int)) (v : List Rat) : List Rat := F.foldl (fun v n => qacc v (t n) (qof n)) v
def wgt (z : Vec) (n : List Int) : Rat := z ((pivL n).getD 0) / row n ((pivL n).getD 0)
end LA
/-! LA17: a field expressed by fields that are free together; the numbers of its identity -/
set_option linter.all false
set_option maxHeartbeats 1000000
set_option exponentiation.threshold 20000
namespace LA
variable {w : Nat} {rs F G : List (List Int)} {P o : List Nat} {x j k : Nat} {g : List Int}
def outO (w : Nat) (P : List Nat) : List Nat := (List.range w).filter fun i => !decide (i ∈ P)
def ordO (w : Nat) (P : List Nat) : List Nat := outO w P ++ P
/-! ### the row that is looked for -/
def hit (k j : Nat) (g : List Int) : Bool := decide ((List.range k).filter (fun i => !decide (at' g i = 0)) = [j])
def solvedR (G : List (List Int)) (k j : Nat) : Option (List Int) := G.find? (hit k j)
/-! ### changes at places of a list -/
def modF {α β : Type} (f : α → β → α) (zs : List (Nat × β)) (v : List α) : List α := zs.foldl (fun v q => v.modify q.1 (f · q.2)) v
/-! ### the numbers -/
def entN (x j k : Nat) (P : List Nat) (g : List Int) (y : Nat) : Int × Int := if y = x then (1, 1) else if y ∈ P then (at' g (k + P.idxOf y), at' g j) else (0, 1)
/-! ### the law's formula -/
def hitQ (k j : Nat) (l : List Rat) : Bool := decide ((List.range k).filter (fun i => !decide (vat l i = 0)) = [j])
def ratV (k : Nat) (g : List Int) : List Rat := ((leadQ g).drop k).map (-1 * ·)
def dueV (w x : Nat) (P : List Nat) (zs : List Rat) : List Rat := modF (fun y b => y + -1 * b) (P.zip zs) (qof (unitL w x))
def entV (w x : Nat) (P : List Nat) (zs : List (Int × Int)) : List (Int × Int) := modF (fun _ b => (-b.1, b.2)) (P.zip zs) ((List.replicate w (0, 1)).set x (1, 1))
def pairV (j k : Nat) (g : List Int) : List (Int × Int) := (g.drop k).map fun e => (-e, at' g j)
/-! ### fields that are free together -/
end LA
/-! LA18: bounds by a size that fits: eight fields with great numbers, twelve with small ones -/
set_option linter.all false
set_option maxHeartbeats 1000000
set_option exponentiation.threshold 20000
namespace LA
variable {w : Nat} {rs F G : List (List Int)} {B : Nat} {o P : List Nat} {x : Nat}
end LA
/-! LA19: a field that follows from fields that are free together is expressed; all fields follow -/
set_option linter.all false
set_option maxHeartbeats 1000000
set_option exponentiation.threshold 20000
namespace LA
variable {w : Nat} {rs F G : List (List Int)} {o P : List Nat} {x : Nat}
end LA
set_option linter.all false
set_option maxHeartbeats 1000000
/-! LA20: solutions of rows, and the rank of their parts -/
namespace LA
def dotW : Nat → Vec → Vec → Rat
  | 0, _, _ => 0
  | n + 1, u, v => dotW n u v + u n * v n
def Ker (w : Nat) (rs : List (List Int)) (y : Vec) : Prop := (∀ i, w ≤ i → y i = 0) ∧ ∀ r ∈ rs, dotW w (row r) y = 0
def ansV (F : List (List Int)) (j : Nat) : Vec := fun i => if i = j then 1 else match F.find? (fun n => decide (pv0 n = i)) with
  | some n => -1 * (row n j / row n i)
  | none => 0
section
variable {w : Nat} {U : Vec → Prop} {F G rs : List (List Int)} {y : Vec} {j : Nat} {n : List Int}
theorem Red.pv (h : Red w U F) (m : n ∈ F) : pivL n = some (pv0 n) ∧ pv0 n < w ∧ row n (pv0 n) ≠ 0 := by
  obtain ⟨p, hp, _⟩ := (h.prim n m).ex
  have e : pv0 n = p := by
    unfold pv0
    rw [hp]
    rfl
  have l := piv_lt hp
  rw [h.len n m] at l
  rw [e]
  exact ⟨hp, l.1, row_ne l.2⟩
theorem Red.off (h : Red w U F) {n' : List Int} (m : n ∈ F) (m' : n' ∈ F) (ne : n' ≠ n) : row n (pv0 n') = 0 := row_zero.mpr (pair_at h.apart m' m ne _ (h.pv m').1)
end
end LA
set_option linter.all false
set_option maxHeartbeats 1000000
/-! LA21: the rank of the solutions at some places -/
namespace LA
def ansQ (w : Nat) (F : List (List Int)) (j : Nat) : List Rat := modF (fun _ b => b) (F.map fun n => (pv0 n, -1 * vat (leadQ n) j)) (qof (unitL w j))
section
variable {w : Nat} {U : Vec → Prop} {F G rs : List (List Int)} {y : Vec} {j : Nat} {n : List Int} {P : List Nat}
def selQ (P : List Nat) (v : List Rat) : List Rat := P.map (vat v)
def solP (w : Nat) (F : List (List Int)) (P : List Nat) : List (List Rat) := (outO w (F.map pv0)).map fun j => selQ P (ansQ w F j)
def rankQ (w : Nat) (F : List (List Int)) (P : List Nat) : Nat := (qrun (solP w F P) P.length).2.length
/-! ### rows multiplied by one number, and the first columns alone -/
end
end LA
set_option linter.all false
set_option maxHeartbeats 1000000
/-! LA22: the rank of the solutions at some places; the sizes of its elimination -/
namespace LA
section
variable {w : Nat} {U : Vec → Prop} {F G rs : List (List Int)} {y v : Vec} {j x : Nat} {n : List Int} {P : List Nat}
variable {D : Int} {g : Nat → List Int}
end
end LA
set_option linter.all false
set_option maxHeartbeats 1000000
/-! LA23: the sizes of the elimination of the solutions at some places -/
namespace LA
section
variable {w B : Nat} {F bs rs as : List (List Int)} {P Z J : List Nat} {D : Int} {g : Nat → List Int}
variable {U : Vec → Prop} {c : Nat → Int}
end
end LA
set_option linter.all false
set_option maxHeartbeats 1000000
set_option exponentiation.threshold 20000
/-! LA24: free together, told by lengths; sums of products with solutions -/
namespace LA
section
variable {w B : Nat} {U : Vec → Prop} {F G rs us : List (List Int)} {y : Vec} {j x : Nat} {R : List Nat} {zs : List Rat}
def qtot (l : List Rat) : Rat := l.foldl (· + ·) 0
end
end LA
set_option linter.all false
set_option maxHeartbeats 1000000
/-! LA25: divisions into parts, and what rows join -/
namespace LA
/-! ### what rows join -/
section
variable {n : Nat} {F : List (List Int)} {ls d : List Nat}
end
end LA
set_option linter.all false
set_option maxHeartbeats 1000000
/-! LA26: so many rows that stand free cannot follow from fewer -/
namespace LA
variable {w : Nat} {rs us vs : List (List Int)}
end LA
set_option linter.all false
set_option maxHeartbeats 1000000
/-! LA27: cutting out and exchanging what spans -/
namespace LA
variable {w : Nat} {rs us vs : List (List Int)}
end LA
set_option linter.all false
set_option maxHeartbeats 1000000
set_option exponentiation.threshold 20000
/-! LA28: normal forms of rows put together: sizes (joins of spaces) -/
namespace LA
variable {w : Nat} {rs F G : List (List Int)} {B : Nat}
/-! ### combinations with integers -/
/-! ### the size of a normal form of rows and a part of another normal form -/
end LA
set_option Elab.async false
set_option linter.all false
set_option maxRecDepth 100000
set_option maxHeartbeats 4000000
/-! LK1: data of any kind behind a value, over the heap without the objects that change -/
namespace LK
open PySem PySem.Spec L2
open PyProof.Rows hiding St

/-! ### the heap without some addresses -/
def off (S : List Addr) (H : Hp) : Hp := fun b => if b ∈ S then none else H b
theorem off_some {S : List Addr} {H : Hp} {b : Addr} {o : HO} (h : off S H b = some o) : b ∉ S ∧ H b = some o := by
  unfold off at h
  by_cases m : b ∈ S
  · rw [if_pos m] at h
    cases h
  · rw [if_neg m] at h
    exact ⟨m, h⟩
theorem off_mk {S : List Addr} {H : Hp} {b : Addr} {o : HO} (m : b ∉ S) (h : H b = some o) : off S H b = some o := by
  unfold off
  rw [if_neg m]
  exact h
theorem off_le {S : List Addr} {H : Hp} : Same (off S H) H := fun _ _ h => (off_some h).2
theorem off_sub {S T : List Addr} {H : Hp} (h : ∀ b ∈ S, b ∈ T) : Same (off T H) (off S H) := fun b o e =>
  off_mk (fun m => (off_some e).1 (h b m)) (off_some e).2
def PotAt (H : Hp) (a : Addr) : Prop := ∃ p q : Int, H a = some (.lst [.int p, .int q]) ∧ 0 ≤ p ∧ 0 ≤ q ∧ q < 2147483648
structure Ext (a : Addr) (H H' : Hp) : Prop where
  keep : ∀ b o, b ≠ a → H b = some o → H' b = some o
  pot : PotAt H a → PotAt H' a
theorem Ext.refl {a : Addr} {H : Hp} : Ext a H H := ⟨fun _ _ _ h => h, fun h => h⟩
theorem Ext.trans {a : Addr} {H H1 H2 : Hp} (x : Ext a H H1) (y : Ext a H1 H2) : Ext a H H2 := ⟨fun b o n h => y.keep b o n (x.keep b o n h), fun h => y.pot (x.pot h)⟩
theorem Ext.of_same {a : Addr} {H H' : Hp} (s : Same H H') : Ext a H H' := ⟨fun b o _ h => s b o h, fun ⟨p, q, h, r⟩ => ⟨p, q, s _ _ h, r⟩⟩
theorem same_new {H : Hp} {p : Addr} {o : HO} (h : H p = none) : Same H (upd H p o) := fun b u e => by
  rw [upd_ne (ne_of_none e h)]
  exact e
theorem Ext.new {a : Addr} {H : Hp} {p : Addr} {o : HO} (h : H p = none) : Ext a H (upd H p o) := Ext.of_same (same_new h)
theorem Ext.off {a : Addr} {S : List Addr} {H H' : Hp} (x : Ext a H H') (m : a ∈ S) : Same (off S H) (off S H') := fun b o h => by
  obtain ⟨n, e⟩ := off_some h
  exact off_mk n (x.keep b o (fun z => n (z ▸ m)) e)
structure Fr (a : Addr) (S : List Addr) (H : Hp) : Prop where
  mem : a ∈ S
  pot : PotAt H a
  all : ∀ b ∈ S, ∃ o, H b = some o
theorem Fr.ext {a : Addr} {S : List Addr} {H H' : Hp} (f : Fr a S H) (x : Ext a H H') : Fr a S H' := ⟨f.mem, x.pot f.pot, fun b m => by
  by_cases e : b = a
  · subst e
    obtain ⟨p, q, h, _⟩ := x.pot f.pot
    exact ⟨_, h⟩
  · obtain ⟨o, h⟩ := f.all b m
    exact ⟨o, x.keep b o e h⟩⟩
theorem Fr.out {a : Addr} {S : List Addr} {H : Hp} (f : Fr a S H) {p : Addr} (h : H p = none) : p ∉ S := fun m => by
  obtain ⟨o, e⟩ := f.all p m
  rw [h] at e
  cases e
theorem same_off_push {S : List Addr} {H H' : Hp} {L : Addr} (h : H L = none) (s : Same (off S H) (off S H')) : Same (off S H) (off (L :: S) H') := fun b o e => by
  obtain ⟨n, e1⟩ := off_some (s b o e)
  obtain ⟨_, e0⟩ := off_some e
  refine off_mk (fun m => ?_) e1
  rcases List.mem_cons.mp m with z | z
  · rw [z, h] at e0
    cases e0
  · exact n z
theorem same_off_pop {S : List Addr} {H : Hp} {L : Addr} : Same (off (L :: S) H) (off S H) := off_sub fun _ m => List.mem_cons_of_mem _ m

/-! ### data -/
def kD : Key → PyData
  | .inl i => .int i
  | .inr x => .str x
mutual
inductive D (K : PySem.W.Frag) (H : Hp) : V → PyData → Prop
  | non : D K H .non .none
  | bl (b : Bool) : D K H (.bl b) (.bool b)
  | int (i : Int) : D K H (.int i) (.int i)
  | str (x : Str) : D K H (.str x) (.str x)
  | lst {a : Addr} {xs : List V} {ds : List PyData} : H a = some (.lst xs) → DA K H xs ds → D K H (.ref a) (.list ds)
  | tup {a : Addr} {xs : List V} {ds : List PyData} : SqT K H a xs → DA K H xs ds → D K H (.ref a) (.tuple ds)
  | dic {a : Addr} {kvs : List (Key × V)} {ds : List (PyData × PyData)} : H a = some (.dK kvs) → DK K H kvs ds → D K H (.ref a) (.dict ds)
inductive DA (K : PySem.W.Frag) (H : Hp) : List V → List PyData → Prop
  | nil : DA K H [] []
  | cons {v : V} {vs : List V} {d : PyData} {ds : List PyData} : D K H v d → DA K H vs ds → DA K H (v :: vs) (d :: ds)
inductive DK (K : PySem.W.Frag) (H : Hp) : List (Key × V) → List (PyData × PyData) → Prop
  | nil : DK K H [] []
  | cons {k : Key} {v : V} {kvs : List (Key × V)} {d : PyData} {ds : List (PyData × PyData)} : D K H v d → DK K H kvs ds → DK K H ((k, v) :: kvs) ((kD k, d) :: ds)
end
theorem sqT_same {K : PySem.W.Frag} {H H' : Hp} {a : Addr} {xs : List V} (e : Same H H') (h : SqT K H a xs) : SqT K H' a xs := by
  rcases h with (h | ⟨o, h⟩) | h
  · exact .inl (.inl (e _ _ h))
  · exact .inl (.inr ⟨o, e _ _ h⟩)
  · exact .inr h
section
variable {K : PySem.W.Frag} {H H' : Hp}
mutual
theorem D.same (e : Same H H') : ∀ (d : PyData) (v : V), D K H v d → D K H' v d
  | .none, _, h => by
    cases h
    exact .non
  | .bool b, _, h => by
    cases h
    exact .bl b
  | .int i, _, h => by
    cases h
    exact .int i
  | .str x, _, h => by
    cases h
    exact .str x
  | .list ds, _, h => by
    cases h with
    | lst h1 h2 => exact .lst (e _ _ h1) (DA.same e ds _ h2)
  | .tuple ds, _, h => by
    cases h with
    | tup h1 h2 => exact .tup (sqT_same e h1) (DA.same e ds _ h2)
  | .dict ds, _, h => by
    cases h with
    | dic h1 h2 => exact .dic (e _ _ h1) (DK.same e ds _ h2)
theorem DA.same (e : Same H H') : ∀ (ds : List PyData) (vs : List V), DA K H vs ds → DA K H' vs ds
  | [], _, h => by
    cases h
    exact .nil
  | d :: ds, _, h => by
    cases h with
    | cons h1 h2 => exact .cons (D.same e d _ h1) (DA.same e ds _ h2)
theorem DK.same (e : Same H H') : ∀ (ds : List (PyData × PyData)) (vs : List (Key × V)), DK K H vs ds → DK K H' vs ds
  | [], _, h => by
    cases h
    exact .nil
  | (k, d) :: ds, _, h => by
    cases h with
    | cons h1 h2 => exact .cons (D.same e d _ h1) (DK.same e ds _ h2)
end
theorem D.mono {v : V} {d : PyData} (h : D K H v d) (e : Same H H') : D K H' v d := D.same e d v h
theorem DA.mono {v : List V} {d : List PyData} (h : DA K H v d) (e : Same H H') : DA K H' v d := DA.same e d v h
theorem DA.length : ∀ {vs : List V} {ds : List PyData}, DA K H vs ds → vs.length = ds.length
  | _, _, .nil => rfl
  | _, _, .cons _ h => congrArg (· + 1) h.length
theorem DA.append : ∀ {vs ws : List V} {ds es : List PyData}, DA K H vs ds → DA K H ws es → DA K H (vs ++ ws) (ds ++ es)
  | _, _, _, _, .nil, h => h
  | _, _, _, _, .cons a b, h => .cons a (b.append h)
theorem DA.get : ∀ {vs : List V} {ds : List PyData} {i : Nat} {d : PyData}, DA K H vs ds → ds[i]? = some d → ∃ v, vs[i]? = some v ∧ D K H v d
  | _, _, _, _, .nil, e => by simp at e
  | _, _, 0, _, .cons h _, e => by
    simp at e
    subst e
    exact ⟨_, rfl, h⟩
  | _, _, i + 1, d, .cons _ h, e => by
    obtain ⟨v, h1, h2⟩ := DA.get (i := i) (d := d) h (by simpa using e)
    exact ⟨v, by simpa using h1, h2⟩
theorem DA.getV : ∀ {vs : List V} {ds : List PyData} {i : Nat} {v : V}, DA K H vs ds → vs[i]? = some v → ∃ d, ds[i]? = some d ∧ D K H v d
  | _, _, _, _, .nil, e => by simp at e
  | _, _, 0, _, .cons h _, e => by
    simp at e
    subst e
    exact ⟨_, rfl, h⟩
  | _, _, i + 1, v, .cons _ h, e => by
    obtain ⟨d, h1, h2⟩ := DA.getV (i := i) (v := v) h (by simpa using e)
    exact ⟨d, by simpa using h1, h2⟩
theorem DA.bools : ∀ {vs : List V} {bs : List Bool}, DA K H vs (bs.map .bool) → vs = bs.map V.bl
  | _, [], h => by
    cases h
    rfl
  | _, b :: bs, h => by
    cases h with
    | cons h1 h2 =>
      cases h1
      rw [DA.bools h2]
      rfl
end

/-! ### what a value of this data is, for the kit -/
section
variable {X : Cx} {pins : List (Addr × Obj)} {σ : St} {H : Hp} {s : Shared}
theorem kv_of : ∀ {kvs : List (Key × V)} {vs : List (Key × Value)} {ds : List (PyData × PyData)}, KV kvs vs → DK X.K H kvs ds →
    ds.map (·.1) = vs.map (fun p => kD p.1) ∧ Vals (kvs.map (·.2)) (vs.map (·.2)) ∧ DA X.K H (kvs.map (·.2)) (ds.map (·.2))
  | _, _, _, .nil, .nil => ⟨rfl, .nil, .nil⟩
  | _, _, _, .cons r t, .cons h1 h2 => by
    obtain ⟨a, b, c⟩ := kv_of t h2
    refine ⟨?_, .cons r.2 b, .cons h1 c⟩
    rw [List.map_cons, List.map_cons, a]
    exact congrArg (kD · :: _) r.1
end
end LK
set_option Elab.async false
set_option linter.all false
set_option maxRecDepth 100000
set_option maxHeartbeats 4000000
/-! LK2: defs whose callers stand in no repr of a list, a tuple, a dict (the guards are told): the promise, the calls, the body, the law's end -/
namespace LK
open PySem PySem.Spec L2
open PyProof.Rows hiding St

abbrev NoG (A : Around) : Prop := A.guards = some []

structure FnG (P : Program) (w : World) (K : PySem.W.Frag) (mg : Str → Option Value) (base : Heap) (CX : CXT)
    (k : Nat) (f : Addr) (fd : FuncData) (ps : List Str) (sp : Sp) : Prop where
  size : ∀ vs H Q E, sp vs H Q E → vs.length = ps.length
  go : ∀ A : Around, NoG A → Room k A → ∀ (outer : List Env) (s : Shared) (H : Hp), Env0 P w K mg base A outer s H →
    ∀ (args : Args) (us : List Value) (vs : List V) (Q : VK) (E : XK), BindsTo s fd args (ps.zip us) → Vals vs us → sp vs H Q E →
    codeAny (model P w) A (.call (.ref f) args) (CR CX outer P w H s Q E) s

section
variable {P : Program} {w : World} {K : PySem.W.Frag} {mg : Str → Option Value} {base : Heap} {CX : CXT} {j k : Nat} {f : Addr} {fd : FuncData} {ps : List Str} {sp sp' : Sp}
theorem FnG.up (F : FnG P w K mg base CX j f fd ps sp) (h : j ≤ k) : FnG P w K mg base CX k f fd ps sp :=
  ⟨F.size, fun A g hr => F.go A g (hr.mono h)⟩
theorem FnG.imp (F : FnG P w K mg base CX k f fd ps sp) (h : ∀ vs H Q E, sp' vs H Q E → sp vs H Q E) : FnG P w K mg base CX k f fd ps sp' :=
  ⟨fun vs H Q E q => F.size vs H Q E (h _ _ _ _ q), fun A g hr outer s H e args us vs Q E b r q => F.go A g hr outer s H e args us vs Q E b r (h _ _ _ _ q)⟩
end

structure Df (P : Program) (w : World) (K : PySem.W.Frag) (mg : Str → Option Value) (base : Heap) (CX : CXT) (k : Nat) (x : Str) (ps : List Str) (sp : Sp) : Prop where
  ex : ∃ (f : Addr) (fd : FuncData), FnG P w K mg base CX k f fd ps sp ∧ mg x = some (.ref f) ∧ PySem.W.keepIn K (.ref f) = true ∧ Binds K fd ps []
theorem Df.up {P : Program} {w : World} {K : PySem.W.Frag} {mg : Str → Option Value} {base : Heap} {CX : CXT} {j k : Nat} {x : Str} {ps : List Str} {sp : Sp}
    (F : Df P w K mg base CX j x ps sp) (h : j ≤ k) : Df P w K mg base CX k x ps sp := by
  obtain ⟨f, fd, a, b⟩ := F.ex
  exact ⟨f, fd, a.up h, b⟩

section
variable {X : Cx} {CX : CXT} {k : Nat} {f : Addr} {fd : FuncData} {ps ks : List Str} {sp : Sp} {E : XK} {x : Str} {p pos : Pos} {e : Expr} {es : List Expr} {kws : List Keyword} {t tk : TA}
theorem callee_end {pins : List (Addr × Obj)} {σ : St} {H : Hp} {s : Shared} {Q : VK} (hx : Passes CX X E) (I : Inv X pins σ H s) {r : Result} {s' : Shared}
    (h : CR CX X.stack X.prog X.w H s Q E r s') : callEnd (EP X pins σ Q) X.xe r s' := by
  rcases r with e | fl
  · exact hx pins σ H s e s' I h
  · cases fl
    case ret u => exact I.after h
    all_goals exact False.elim h
theorem run_g {pins : List (Addr × Obj)} {σ : St} {H : Hp} {s : Shared} {Q : VK} {us : List Value} {kw : List (Str × Value)} {vs : List V} {ws : List Value}
    (F : FnG X.prog X.w X.K X.mg X.base CX k f fd ps sp) (hg : NoG X.A) (hr : Room k X.A) (hb : BindsTo s fd ⟨us, kw⟩ (ps.zip ws)) (hx : Passes CX X E)
    (I : Inv X pins σ H s) (r : Vals vs ws) (h : sp vs H Q E) : wpAny (model X.prog X.w) X.A (call (.ref f) us kw) (EP X pins σ Q) X.xe s :=
  wpAny_call (codeAny_mono (F.go X.A hg hr X.stack s H I.env0 ⟨us, kw⟩ ws vs Q E hb r h) fun r' s' q => callee_end hx I q)

theorem pe_fn (F : Df X.prog X.w X.K X.mg X.base CX k x ps sp) (hg : NoG X.A) (hr : Room k X.A) (hgl : Gl X x) (hx : Passes CX X E)
    (ha : PA X (e :: es) t) (hdb : (x == ("__debug__" : Str)) = false := by decide) (he : starEach (e :: es) X.env = (false, eval e X.env) :: starEach es X.env := by rfl)
    (hpl : (backTo pos (starEach es X.env)).any (·.1) = false := by rfl) : PE X (.Call (.Name x p) (e :: es) [] pos) (tCall sp [] E t) := by
  obtain ⟨f, fd, G, hm, hk, hb⟩ := F.ex
  constructor
  intro pins s σ H Q I h
  apply wpAny_Call_Name_kw
  apply ld_glob I hgl hm _ hdb
  apply PySem.W.callWith_K (h₀ := X.base) I.ok.mod.kin hk _ he hpl
  apply thn (ha.run pos pins s σ H _ I h)
  rintro us s1 ⟨vs, H1, I1, r, q⟩
  have q' : sp vs H1 Q E := by simpa using q
  have l : (us ++ []).length = ps.length := by
    rw [List.append_nil, ← r.length]
    exact G.size _ _ _ _ q'
  have b := hb s1 us I1.kIn l
  rw [List.append_nil] at b
  exact ⟨I1.kIn, run_g G hg hr b hx I1 r q'⟩
end

section
variable {X : Cx} {CX : CXT} {k : Nat} {ps ks : List Str} {sp : Sp} {E : XK} {x : Str} {p pos : Pos} {kws : List Keyword} {tk : TA} {g : {α : Type} → List α → List α}
end
/-! ### a def's body -/
section
variable {P : Program} {w : World} {K : PySem.W.Frag} {mg : Str → Option Value} {base : Heap} {CX : CXT}
theorem fn_ofG {k : Nat} {f : Addr} {name qual : Str} {params : Arguments} {body : List Stmt} {scope : Scope} {dV kV doc pm cdv ct oc : Value} {an od : Option Addr} {osl : Array (Option Value)} {N ps : List Str} {sp : Sp}
    (lk : K.lookup f = some ⟨oc, od, .func (PySem.W.fnOf name qual params body scope dV kV doc pm an cdv ct), osl⟩) (hcd : PySem.W.codeIn K cdv qual = true) (S : FnScope N ps scope)
    (len : ∀ vs H Q E, sp vs H Q E → vs.length = ps.length)
    (hbody : ∀ (A : Around) (outer : List Env) (s : Shared) (H : Hp) (vs : List V) (Q : VK) (E : XK), NoG A → Room k (A.deeper (envOfC qual scope s.heap.objs.size f cdv)) → sp vs H Q E →
      ∃ t, PSs (cxOf CX P w K mg base N qual scope f cdv A outer s H E) body t ∧ t { nx := fun _ H' => Q .non H', rt := Q } (start N vs) H) :
    FnG P w K mg base CX (k + 1) f (PySem.W.fnOf name qual params body scope dV kV doc pm an cdv ct) ps sp := by
  constructor
  · exact len
  intro A hg hr outer s H e0 args us vs Q E hb r hsp
  have inK : K.In s.heap := e0.mod.kin.keeps fun b o e => (e0.bs b o e).1
  have nolim : s.heap.NoLimit := e0.mod.nolimit.keeps fun b o e => (e0.bs b o e).1
  have kinds : ∀ y ∈ ps.zip us, scope.names.lookup y.1 = some .local ∨ (scope.names.lookup y.1 = some .cell ∧ ((cellsFrom (s.heap.objs.size + 1) scope.names []).lookup y.1).isSome = true) := by
    rintro ⟨n, v⟩ hy
    rcases S.par n (List.of_mem_zip hy).1 with q | q
    · exact .inl q
    · exact .inr ⟨q, PySem.W.cellsFrom_some _ _ _ (.inl q)⟩
  apply codeAny_call_function hr.depth (inK _ _ lk) rfl S.co S.gen rfl (PySem.W.codeRec_of inK hcd)
  apply hb
  apply wpAny_newFunctionEnv_cells S.kind kinds
  rintro env rfl s1 x
  refine ⟨nolim.keeps x.toInCall.keep, ?_⟩
  apply codeAny_func
  obtain ⟨t, ht, hq⟩ := hbody A outer s H vs Q E hg (hr.deeper _) hsp
  have I := inv_start (CX := CX) (E := E) S hr.hd e0 (len _ _ _ _ hsp) r x
  apply wpAny_mono (ht.run [] s1 (start N vs) H _ I hq)
  · intro fl s' hs
    cases fl
    case ret u =>
      obtain ⟨v, σ', H', J, rv, q⟩ := hs
      exact ⟨v, H', J.os, J.bare, J.base, J.hok, rv, q⟩
    case next =>
      obtain ⟨σ', H', J, q⟩ := hs
      exact ⟨V.non, H', J.os, J.bare, J.base, J.hok, rfl, q⟩
    all_goals
      obtain ⟨_, _, _, q⟩ := hs
      exact False.elim q
  · intro e s' hs
    exact hs
theorem fun_okG {x qual : Str} {st : Stmt} {f : Addr} {fd : FuncData} {N ps : List Str} {k : Nat} {sp : Sp} (F : Fun K x qual st f fd) (S : FnScope N ps (defScope st)) (len : ∀ vs H Q E, sp vs H Q E → vs.length = ps.length)
    (hbody : ∀ (cdv : Value) (A : Around) (outer : List Env) (s : Shared) (H : Hp) (vs : List V) (Q : VK) (E : XK), NoG A → Room k (A.deeper (envOfC qual (defScope st) s.heap.objs.size f cdv)) → sp vs H Q E →
      ∃ t, PSs (cxOf CX0 P w K mg base N qual (defScope st) f cdv A outer s H E).nox (defBody st) t ∧ t { nx := fun _ H' => Q .non H', rt := Q } (start N vs) H) : FnG P w K mg base CX0 (k + 1) f fd ps sp := by
  obtain ⟨oc, od, kV, doc, pm, an, cdv, ct, osl, rfl, lk, hcd⟩ := F.ex
  apply fn_ofG lk hcd S len
  intro A outer s H vs Q E hg hr hsp
  obtain ⟨t, h, q⟩ := hbody cdv A outer s H vs Q E hg hr hsp
  exact ⟨t, h.nox, q⟩
end

/-! ### the law's end -/
theorem law_callG {P : Program} {w : World} {K : PySem.W.Frag} {mg mb : Str → Option Value} {CX : CXT} {k : Nat} {fa a : Addr} {fd : FuncData} {x : Str} {sp : Sp} {s₁ : Shared} {vs : List Value} {ns : List Int}
    (KX : K.In s₁.heap) (hns : s₁.heap.Ns mainGlobals mg) (hb : s₁.heap.Ns builtinsNs mb) (hbb : ∀ x : Str, x ≠ "__name__" → mb x = bootBuiltins x) (hlim : s₁.heap.NoLimit) (hg : s₁.gens = #[])
    (ha : s₁.heap.get? a = some { cls := .type "list", data := .seq vs.toArray }) (hi : IntsAre vs ns) (hl : ns.length ≤ sizeLine) (hr : Room k callerA)
    (F : ∀ base : Heap, K.In base → base.Ns mainGlobals mg → FnG P w K mg base CX k fa fd [x] sp) (hbind : ∀ (s : Shared) (u : Value), BindsTo s fd ⟨[u], []⟩ [(x, u)])
    (hsp : ∀ H : Hp, Only H → SqL K H a (ns.map V.int) → sp [.ref a] H (fun v _ => v = .bl true) fun _ _ _ => False)
    (hCX : ∀ H e s', CX [] H s₁ (fun _ _ _ => False) e s' → False) :
    codeAny (model P w) callerA (.call (.ref fa) ⟨[.ref a], []⟩) (fun r s' => r = .ok (.ret (.bool true)) ∧ OldK s₁.heap s'.heap ∧ s'.os = s₁.os ∧ AllBare s'.gens) s₁ := by
  have rv := vals_ints hi
  have core : ∀ H : Hp, Only H → SqL K H a (ns.map V.int) → HOk P w H s₁.heap → (∀ b, H b ≠ none → b = a) → (H a ≠ none → K.lookup a = none) →
      codeAny (model P w) callerA (.call (.ref fa) ⟨[.ref a], []⟩) (fun r s' => r = .ok (.ret (.bool true)) ∧ OldK s₁.heap s'.heap ∧ s'.os = s₁.os ∧ AllBare s'.gens) s₁ := by
    intro H only sq ok one outK
    have stay : ∀ {b : Addr} {o : Obj}, s₁.heap.get? b = some o → H b = none → (hidT s₁.heap H).get? b = some o := fun e n => hidT_get e n
    have free_of : ∀ {b : Addr}, (b = a → H a = none) → H b = none := fun {b} h => by
      cases q : H b with
      | none => rfl
      | some u =>
        have e' : b = a := one b (by simp [q])
        rw [e', h e'] at q
        cases q
    have dict_free : ∀ {b : Addr} {o : Obj} {es : Array DictEntry} {ep : Nat}, s₁.heap.get? b = some o → o.data = .dict es ep → H b = none := fun {b o es ep} e d => by
      cases q : H b with
      | none => rfl
      | some u =>
        obtain rfl : b = a := one b (by simp [q])
        rw [ha] at e
        injection e with e
        subst e
        cases d
    have ns_stay : ∀ {b : Addr} {m : Str → Option Value}, s₁.heap.Ns b m → (hidT s₁.heap H).Ns b m := by
      rintro b m ⟨o, es, ep, e, d, r⟩
      exact ⟨o, es, ep, stay e (dict_free e d), d, r⟩
    have inB : K.In (hidT s₁.heap H) := by
      intro b o e
      refine stay (KX b o e) ?_
      cases q : H b with
      | none => rfl
      | some u =>
        obtain rfl : b = a := one b (by simp [q])
        rw [outK (by simp [q])] at e
        cases e
    obtain ⟨mc, l1, l2⟩ := hlim
    have modOk : Mod K mg (hidT s₁.heap H) := ⟨inB, ns_stay hns, ⟨mb, ns_stay hb, hbb⟩, ⟨mc, ns_stay l1, l2⟩⟩
    have env : Env0 P w K mg (hidT s₁.heap H) callerA [] s₁ H := by
      refine ⟨rfl, modOk, fun b o e => of_hidT e, ?_, trivial, ?_, ok, .of_eq hg⟩
      · exact Nat.le_of_eq (hidT_size _ _)
      · intro b m
        exact absurd (show b ∈ ([] : List Addr) from m) (by simp)
    have run := (F _ inB (ns_stay hns)).go callerA rfl hr [] s₁ H env ⟨[.ref a], []⟩ [.ref a] [.ref a] _ _ (hbind s₁ (.ref a)) (.cons rfl .nil) (hsp H only sq)
    apply codeAny_mono run
    intro r s' h
    rcases r with e | fl
    · exact (hCX H e s' h).elim
    cases fl
    case ret u =>
      obtain ⟨v, H', os, bare, un, hok', r', rfl⟩ := h
      obtain rfl : u = Value.bool true := r'
      refine ⟨rfl, OldK.of_keep ?_, os, bare⟩
      intro b o e
      cases q : H b with
      | none => exact un.keep b o e q (fun z => absurd (show b ∈ ([] : List Addr) from z) (by simp)) (by simp)
      | some u =>
        rcases only b with z | ⟨ob, xs, z⟩
        · rw [q] at z
          cases z
        · have e1 := (ok b _ z).1
          have e2 := (hok' b _ (un.frzs b ob _ z)).1
          rw [e] at e1
          injection e1 with e1
          rw [e1]
          exact e2
    all_goals exact False.elim h
  have len : vs.toArray.size ≤ sizeLine := by
    rw [List.size_toArray, hi.length]
    exact hl
  cases hk : K.lookup a with
  | some o =>
    have e := KX a o hk
    rw [ha] at e
    injection e with e
    subst e
    refine core (fun _ => none) (fun _ => .inl rfl) (.inr ⟨_, vs.toArray, _, hk, rfl, rfl, rfl, len, by simpa using rv⟩) ?_ ?_ ?_
    · intro b u z
      cases z
    · intro b z
      exact absurd rfl z
    · intro z
      exact absurd rfl z
  | none =>
    let G : Hp := fun b => if b = a then some (.frz { cls := .type "list", data := .seq vs.toArray } (.lst (ns.map V.int))) else none
    have G1 : G a = some (.frz { cls := .type "list", data := .seq vs.toArray } (.lst (ns.map V.int))) := if_pos rfl
    have G2 : ∀ b, b ≠ a → G b = none := fun b h => if_neg h
    refine core G ?_ (.inl (.inr ⟨_, G1⟩)) ?_ ?_ fun _ => hk
    · intro b
      by_cases h : b = a
      · rw [h]
        exact .inr ⟨_, _, G1⟩
      · exact .inl (G2 b h)
    · intro b u z
      by_cases h : b = a
      · subst h
        rw [G1] at z
        injection z with z
        subst z
        exact ⟨ha, by rw [List.length_map]; exact hl, vs, _, rv, ha⟩
      · rw [G2 b h] at z
        cases z
    · intro b z
      by_cases h : b = a
      · exact h
      · exact absurd (G2 b h) z
end LK
set_option Elab.async false
set_option linter.all false
set_option maxRecDepth 100000
set_option maxHeartbeats 4000000
/-! LK3: what an expression comes to: Ev (a value of some data), EvT (a test), EvA (arguments); statements. G: the part of the heap that one knows -/
namespace LK
open PySem PySem.Spec L2
open PyProof.Rows hiding St

section
variable (K : PySem.W.Frag) (a : Addr) (G : Hp)
def Ev (te : TE) (σ : St) (C : PyData → Prop) : Prop :=
  ∀ S H1, Fr a S H1 → Same G (off S H1) → ∀ Q : VK, (∀ v d H2, Ext a H1 H2 → D K (off S H2) v d → C d → Q v H2) → te σ H1 Q
def EvT (tt : TT) (σ : St) (C : Bool → Prop) : Prop :=
  ∀ S H1, Fr a S H1 → Same G (off S H1) → ∀ Q : Bool → Hp → Prop, (∀ b H2, Ext a H1 H2 → C b → Q b H2) → tt σ H1 Q
def EvA (ta : TA) (σ : St) (C : List PyData → Prop) : Prop :=
  ∀ S H1, Fr a S H1 → Same G (off S H1) → ∀ Q : List V → Hp → Prop, (∀ vs ds H2, Ext a H1 H2 → DA K (off S H2) vs ds → C ds → Q vs H2) → ta σ H1 Q
end

section
variable {K : PySem.W.Frag} {a : Addr} {S : List Addr} {σ : St} {G G' H H' : Hp} {ta tb tc te : TE} {t u : TT} {tr : TA} {C C1 C2 C3 : PyData → Prop} {B B1 B2 : Bool → Prop} {A1 A2 : List PyData → Prop}
theorem Fr.same (f : Fr a S H) (x : Ext a H H') (s : Same G (off S H)) : Same G (off S H') := s.trans (x.off f.mem)

/-! ### weakening -/
theorem Ev.at (h : Ev K a G te σ C) (e : Same G G') : Ev K a G' te σ C := fun S H1 f s => h S H1 f (e.trans s)
theorem EvT.at (h : EvT a G t σ B) (e : Same G G') : EvT a G' t σ B := fun S H1 f s => h S H1 f (e.trans s)
theorem EvA.at (h : EvA K a G tr σ A1) (e : Same G G') : EvA K a G' tr σ A1 := fun S H1 f s => h S H1 f (e.trans s)
theorem Ev.imp (h : Ev K a G te σ C1) (i : ∀ d, C1 d → C2 d) : Ev K a G te σ C2 := fun S H1 f s Q q =>
  h S H1 f s Q fun v d H2 e m c => q v d H2 e m (i d c)
theorem EvT.imp (h : EvT a G t σ B1) (i : ∀ d, B1 d → B2 d) : EvT a G t σ B2 := fun S H1 f s Q q => h S H1 f s Q fun v H2 e c => q v H2 e (i v c)
theorem EvA.imp (h : EvA K a G tr σ A1) (i : ∀ d, A1 d → A2 d) : EvA K a G tr σ A2 := fun S H1 f s Q q =>
  h S H1 f s Q fun v d H2 e m c => q v d H2 e m (i d c)

/-! ### names, constants -/
theorem ev_var {i : Nat} {v : V} {d : PyData} (h : σ[i]? = some (some v)) (m : D K G v d) : Ev K a G (tVar i) σ (· = d) := fun S H1 f s Q q =>
  ⟨v, h, q v d H1 Ext.refl (m.mono s) rfl⟩
theorem ev_c {v : V} {d : PyData} (m : D K (fun _ => none) v d) : Ev K a G (tC v) σ (· = d) := fun S H1 f s Q q =>
  q v d H1 Ext.refl (m.mono fun _ _ e => nomatch e) rfl
theorem ev_i {i : Int} : Ev K a G (tC (.int i)) σ (· = .int i) := ev_c (.int i)
theorem ev_s {i : Str} : Ev K a G (tC (.str i)) σ (· = .str i) := ev_c (.str i)
theorem ev_b {i : Bool} : Ev K a G (tC (.bl i)) σ (· = .bool i) := ev_c (.bl i)
theorem ev_n : Ev K a G (tC .non) σ (· = .none) := ev_c .non

/-! ### two parts, by values -/
def R2D (K : PySem.W.Frag) (a : Addr) (r : R2) (d e : PyData) (C : PyData → Prop) : Prop :=
  ∀ S H x y, Fr a S H → D K (off S H) x d → D K (off S H) y e → ∀ Q : VK, (∀ v z H2, Ext a H H2 → D K (off S H2) v z → C z → Q v H2) → r x y H Q
theorem ev_op {r : R2} (ha : Ev K a G ta σ C1) (hb : Ev K a G tb σ C2) (hr : ∀ d e, C1 d → C2 e → R2D K a r d e C) : Ev K a G (tOp r ta tb) σ C := fun S H1 f s Q q =>
  ha S H1 f s _ fun v d H2 x2 m c => hb S H2 (f.ext x2) (f.same x2 s) _ fun w e H3 x3 m3 c3 =>
    hr d e c c3 S H3 v w ((f.ext x2).ext x3) (m.mono (x3.off f.mem)) m3 Q fun z g H4 x4 m4 c4 => q z g H4 ((x2.trans x3).trans x4) m4 c4
theorem ev_un {r : V → Hp → VK → Prop} (ha : Ev K a G ta σ C1)
    (hr : ∀ d, C1 d → ∀ S H x, Fr a S H → D K (off S H) x d → ∀ Q : VK, (∀ v z H2, Ext a H H2 → D K (off S H2) v z → C z → Q v H2) → r x H Q) : Ev K a G (tUn r ta) σ C := fun S H1 f s Q q =>
  ha S H1 f s _ fun v d H2 x2 m c => hr d c S H2 v (f.ext x2) m Q fun z g H3 x3 m3 c3 => q z g H3 (x2.trans x3) m3 c3

/-! ints -/
theorem r2_I {c : Int → Int → Prop} {g : Int → Int → V} {i j : Int} {z : PyData} (hc : c i j) (hz : ∀ H, D K H (g i j) z) (cz : C z) : R2D K a (rI c g) (.int i) (.int j) C := by
  intro S H x y f mx my Q q
  cases mx
  cases my
  exact ⟨i, j, rfl, rfl, hc, q _ z H Ext.refl (hz _) cz⟩
theorem r2_I0 {g : Int → Int → V} {i j : Int} {z : PyData} (hz : ∀ H, D K H (g i j) z) (cz : C z) : R2D K a (rI0 g) (.int i) (.int j) C := by
  intro S H x y f mx my Q q
  cases mx
  cases my
  exact ⟨i, j, rfl, rfl, q _ z H Ext.refl (hz _) cz⟩
abbrev IsI (c : Int → Prop) : PyData → Prop := fun d => ∃ i, d = .int i ∧ c i
abbrev IsB (c : Bool → Prop) : PyData → Prop := fun d => ∃ i, d = .bool i ∧ c i
theorem ev_isI {c : Int → Prop} {i : Int} (h : Ev K a G te σ (· = .int i)) (hc : c i) : Ev K a G te σ (IsI c) := h.imp fun d e => ⟨i, e, hc⟩
/-! ### tests -/
theorem et_val (h : Ev K a G te σ (IsB B)) : EvT a G (tB te) σ B := fun S H1 f s Q q => h S H1 f s _ fun v d H2 x2 m c => by
  obtain ⟨b, rfl, hB⟩ := c
  cases m
  exact ⟨b, rfl, q b H2 x2 hB⟩
theorem et_test (h : Ev K a G te σ (IsB B)) : EvT a G (tTest te) σ B := fun S H1 f s Q q => h S H1 f s _ fun v d H2 x2 m c => by
  obtain ⟨b, rfl, hB⟩ := c
  cases m
  exact ⟨b, rfl, q b H2 x2 hB⟩
theorem et_not (h : EvT a G t σ B1) (hb : ∀ b, B1 b → B (!b)) : EvT a G (tNot t) σ B := fun S H1 f s Q q => h S H1 f s _ fun b H2 x2 c => q _ H2 x2 (hb b c)
theorem et_and (h1 : EvT a G t σ B1) (h2 : B1 true → EvT a G u σ B) (h3 : B1 false → B false) : EvT a G (tAnd t u) σ B := fun S H1 f s Q q => h1 S H1 f s _ fun b H2 x2 c => by
  cases b with
  | true => exact h2 c S H2 (f.ext x2) (f.same x2 s) Q fun b H3 x3 => q b H3 (x2.trans x3)
  | false => exact q false H2 x2 (h3 c)
theorem et_or (h1 : EvT a G t σ B1) (h2 : B1 false → EvT a G u σ B) (h3 : B1 true → B true) : EvT a G (tOr t u) σ B := fun S H1 f s Q q => h1 S H1 f s _ fun b H2 x2 c => by
  cases b with
  | false => exact h2 c S H2 (f.ext x2) (f.same x2 s) Q fun b H3 x3 => q b H3 (x2.trans x3)
  | true => exact q true H2 x2 (h3 c)
theorem ev_andV (h1 : Ev K a G ta σ (IsB B)) (h2 : B true → Ev K a G tb σ C) (h3 : B false → C (.bool false)) : Ev K a G (tAndV ta tb) σ C := fun S H1 f s Q q =>
  h1 S H1 f s _ fun v d H2 x2 m c => by
    obtain ⟨b, rfl, hB⟩ := c
    cases m
    refine ⟨b, rfl, ?_⟩
    cases b with
    | true => exact h2 hB S H2 (f.ext x2) (f.same x2 s) Q fun v d H3 x3 => q v d H3 (x2.trans x3)
    | false => exact q _ _ H2 x2 (.bl _) (h3 hB)
theorem ev_orV (h1 : Ev K a G ta σ (IsB B)) (h2 : B false → Ev K a G tb σ C) (h3 : B true → C (.bool true)) : Ev K a G (tOrV ta tb) σ C := fun S H1 f s Q q =>
  h1 S H1 f s _ fun v d H2 x2 m c => by
    obtain ⟨b, rfl, hB⟩ := c
    cases m
    refine ⟨b, rfl, ?_⟩
    cases b with
    | false => exact h2 hB S H2 (f.ext x2) (f.same x2 s) Q fun v d H3 x3 => q v d H3 (x2.trans x3)
    | true => exact q _ _ H2 x2 (.bl _) (h3 hB)
theorem ev_notV (h1 : Ev K a G ta σ (IsB fun b => C (.bool (!b)))) : Ev K a G (tNotV ta) σ C := fun S H1 f s Q q => h1 S H1 f s _ fun v d H2 x2 m c => by
  obtain ⟨b, rfl, hB⟩ := c
  cases m
  exact ⟨b, rfl, q _ _ H2 x2 (.bl _) hB⟩
theorem ev_if (h : EvT a G t σ B) (h1 : B true → Ev K a G ta σ C) (h2 : B false → Ev K a G tb σ C) : Ev K a G (tIf t ta tb) σ C := fun S H1 f s Q q => h S H1 f s _ fun b H2 x2 c => by
  cases b with
  | true => exact h1 c S H2 (f.ext x2) (f.same x2 s) Q fun v d H3 x3 => q v d H3 (x2.trans x3)
  | false => exact h2 c S H2 (f.ext x2) (f.same x2 s) Q fun v d H3 x3 => q v d H3 (x2.trans x3)

/-! ### arguments, displays -/
theorem ea_nil : EvA K a G tNil σ (· = []) := fun S H1 f s Q q => q [] [] H1 Ext.refl .nil rfl
theorem ea_cons (h : Ev K a G te σ C) (hr : EvA K a G tr σ A1) : EvA K a G (tCons te tr) σ (fun ds => ∃ d r, ds = d :: r ∧ C d ∧ A1 r) := fun S H1 f s Q q =>
  h S H1 f s _ fun v d H2 x2 m c => hr S H2 (f.ext x2) (f.same x2 s) _ fun vs ds H3 x3 m3 c3 => q _ _ H3 (x2.trans x3) (.cons (m.mono (x3.off f.mem)) m3) ⟨d, ds, rfl, c, c3⟩
theorem ea_eq {d : PyData} {ds : List PyData} (h : Ev K a G te σ (· = d)) (hr : EvA K a G tr σ (· = ds)) : EvA K a G (tCons te tr) σ (· = d :: ds) :=
  (ea_cons h hr).imp fun _ ⟨_, _, e, e1, e2⟩ => by rw [e, e1, e2]
theorem same_off_new {p : Addr} {o : HO} (hp : H p = none) : Same (off S H) (off S (upd H p o)) := fun b u e => off_mk (off_some e).1 (same_new hp b u (off_some e).2)
theorem D.new_tup {p : Addr} {vs : List V} {ds : List PyData} (hp : H p = none) (hS : p ∉ S) (m : DA K (off S H) vs ds) : D K (off S (upd H p (.tup vs))) (.ref p) (.tuple ds) :=
  .tup (.inl (.inl (off_mk hS upd_same))) (m.mono (same_off_new hp))
theorem D.new_lst {p : Addr} {vs : List V} {ds : List PyData} (hp : H p = none) (hS : p ∉ S) (m : DA K (off S H) vs ds) : D K (off S (upd H p (.lst vs))) (.ref p) (.list ds) :=
  .lst (off_mk hS upd_same) (m.mono (same_off_new hp))
theorem ev_tup (h : EvA K a G tr σ A1) (hl : ∀ ds, A1 ds → ds.length ≤ 1000) : Ev K a G (tTup tr) σ (fun d => ∃ ds, d = .tuple ds ∧ A1 ds) := fun S H1 f s Q q => h S H1 f s _ fun vs ds H2 x2 m c =>
  ⟨by rw [m.length]; exact Nat.le_of_lt (small1000 (hl ds c)), fun p hp => q _ _ _ (x2.trans (Ext.new hp)) (D.new_tup hp ((f.ext x2).out hp) m) ⟨ds, rfl, c⟩⟩
theorem ev_lst (h : EvA K a G tr σ A1) (hl : ∀ ds, A1 ds → ds.length ≤ 1000) : Ev K a G (tLst tr) σ (fun d => ∃ ds, d = .list ds ∧ A1 ds) := fun S H1 f s Q q => h S H1 f s _ fun vs ds H2 x2 m c =>
  ⟨by rw [m.length]; exact Nat.le_of_lt (small1000 (hl ds c)), fun p hp => q _ _ _ (x2.trans (Ext.new hp)) (D.new_lst hp ((f.ext x2).out hp) m) ⟨ds, rfl, c⟩⟩
theorem ev_tupE {ds : List PyData} (h : EvA K a G tr σ (· = ds)) (hl : ds.length ≤ 1000) : Ev K a G (tTup tr) σ (· = .tuple ds) := (ev_tup h fun _ e => by rw [e]; exact hl).imp fun _ ⟨_, e, e'⟩ => by rw [e, e']
theorem ev_lstE {ds : List PyData} (h : EvA K a G tr σ (· = ds)) (hl : ds.length ≤ 1000) : Ev K a G (tLst tr) σ (· = .list ds) := (ev_lst h fun _ e => by rw [e]; exact hl).imp fun _ ⟨_, e, e'⟩ => by rw [e, e']

/-! ### calls -/
def spG (K : PySem.W.Frag) (pre : List PyData → Prop) (post : List PyData → PyData → Prop) : Sp := fun vs H Q _ => ∃ (a : Addr) (S : List Addr) (ds : List PyData),
  Fr a S H ∧ DA K (off S H) vs ds ∧ pre ds ∧ ∀ v d H', Ext a H H' → D K (off S H') v d → post ds d → Q v H'
def spP (K : PySem.W.Frag) (pre : List PyData → Prop) (post : List PyData → PyData → Prop) : Sp := fun vs H Q _ => ∃ (a : Addr) (S : List Addr) (ws : List V) (ds : List PyData),
  vs = .ref a :: ws ∧ Fr a S H ∧ DA K (off S H) ws ds ∧ pre ds ∧ ∀ v d H', Ext a H H' → D K (off S H') v d → post ds d → Q v H'
theorem spG_len {pre : List PyData → Prop} {post : List PyData → PyData → Prop} {n : Nat} (hp : ∀ ds, pre ds → ds.length = n) {vs : List V} {H : Hp} {Q : VK} {E : XK} (h : spG K pre post vs H Q E) : vs.length = n := by
  obtain ⟨a, S, ds, _, m, p, _⟩ := h
  rw [m.length]
  exact hp ds p
theorem spP_len {pre : List PyData → Prop} {post : List PyData → PyData → Prop} {n : Nat} (hp : ∀ ds, pre ds → ds.length = n) {vs : List V} {H : Hp} {Q : VK} {E : XK} (h : spP K pre post vs H Q E) : vs.length = n + 1 := by
  obtain ⟨a, S, ws, ds, rfl, _, m, p, _⟩ := h
  rw [List.length_cons, m.length, hp ds p]
theorem ev_callG {pre : List PyData → Prop} {post : List PyData → PyData → Prop} {E : XK} (h : EvA K a G tr σ A1) (hp : ∀ ds, A1 ds → pre ds) (hc : ∀ ds d, A1 ds → post ds d → C d) :
    Ev K a G (tCall (spG K pre post) [] E tr) σ C := fun S H1 f s Q q => h S H1 f s _ fun vs ds H2 x2 m c =>
  ⟨a, S, ds, f.ext x2, by rw [List.append_nil]; exact m, hp ds c, fun v d H3 x3 m3 p => q v d H3 (x2.trans x3) m3 (hc ds d c p)⟩
theorem ev_callP {pre : List PyData → Prop} {post : List PyData → PyData → Prop} {E : XK} {i : Nat} (hi : σ[i]? = some (some (.ref a))) (h : EvA K a G tr σ A1) (hp : ∀ ds, A1 ds → pre ds) (hc : ∀ ds d, A1 ds → post ds d → C d) :
    Ev K a G (tCall (spP K pre post) [] E (tCons (tVar i) tr)) σ C := fun S H1 f s Q q => ⟨.ref a, hi, h S H1 f s _ fun vs ds H2 x2 m c =>
  ⟨a, S, vs, ds, by rw [List.append_nil], f.ext x2, m, hp ds c, fun v d H3 x3 m3 p => q v d H3 (x2.trans x3) m3 (hc ds d c p)⟩⟩
/-! ### statements -/
variable {Dn : Ends} {t1 t2 : TS}
theorem q_set {i : Nat} (h : Ev K a G te σ C) (f : Fr a S H) (s : Same G (off S H)) (q : ∀ v d H', Ext a H H' → Fr a S H' → D K (off S H') v d → C d → Dn.nx (σ.set i (some v)) H') : tAsg te (gName i) Dn σ H :=
  h S H f s _ fun v d H2 x m c => q v d H2 x (f.ext x) m c
theorem q_ret (h : Ev K a G te σ C) (f : Fr a S H) (s : Same G (off S H)) (q : ∀ v d H', Ext a H H' → D K (off S H') v d → C d → Dn.rt v H') : tRet te Dn σ H :=
  h S H f s _ fun v d H2 x m c => q v d H2 x m c
theorem q_if (h : EvT a G t σ B) (f : Fr a S H) (s : Same G (off S H)) (q1 : ∀ H', Ext a H H' → Fr a S H' → B true → t1 Dn σ H') (q2 : ∀ H', Ext a H H' → Fr a S H' → B false → t2 Dn σ H') : tIfS t t1 t2 Dn σ H :=
  h S H f s _ fun b H2 x c => by
    cases b with
    | true => exact q1 H2 x (f.ext x) c
    | false => exact q2 H2 x (f.ext x) c

/-! ### comprehensions: what is walked comes to n items, the j-th of data in X j; every item gives one of data in Y -/
end
end LK
set_option Elab.async false
set_option linter.all false
set_option maxRecDepth 100000
set_option maxHeartbeats 4000000
/-! LK4: repr of data; isinstance of data; texts -/
namespace LK
open PySem PySem.Spec L2
open PyProof.Rows hiding St

section
variable {X : Cx} {pins : List (Addr × Obj)} {σ : St} {H : Hp} {s : Shared}
theorem key_reads {k : Key} {u : Value} {h : Heap} (e : keyIs k u = true) : Reads h u (kD k) [] := by
  rcases keyIs_shape e with ⟨i, t, rfl, rfl⟩ | ⟨x, t, rfl, rfl⟩
  · exact .int i t
  · exact .str x t
theorem keys_read {h : Heap} : ∀ {es : List DictEntry} {vs : List (Key × Value)}, Pairs (mixKind X.prog X.w) es vs → ReadsAll h (es.map (·.key)) (vs.map fun p => kD p.1) []
  | _, _, .nil => .nil
  | _, _, .cons e _ t => .cons (as := []) (bs := []) (key_reads e) (keys_read t)
theorem vals_at : ∀ {es : List DictEntry} {vs : List (Key × Value)}, Pairs (mixKind X.prog X.w) es vs → es.map (·.val) = vs.map (·.2)
  | _, _, .nil => rfl
  | _, _, .cons _ e t => by
    rw [List.map_cons, List.map_cons, vals_at t, e]
mutual
theorem D.reads (I : Inv X pins σ H s) : ∀ (d : PyData) (v : V) (u : Value), D X.K H v d → RelV v u → ∃ as, Reads s.heap u d as
  | .none, _, _, h, r => by
    cases h
    cases r
    exact ⟨_, .none⟩
  | .bool b, _, _, h, r => by
    cases h
    cases r
    exact ⟨_, .bool b⟩
  | .int i, _, _, h, r => by
    cases h
    obtain ⟨t, rfl⟩ := r
    exact ⟨_, .int i t⟩
  | .str x, _, _, h, r => by
    cases h
    obtain ⟨t, rfl⟩ := r
    exact ⟨_, .str x t⟩
  | .list ds, _, _, h, r => by
    cases h with
    | lst h1 h2 =>
      cases r
      obtain ⟨its, rv, ⟨o, n, ho, hc, _, hd⟩, _⟩ := I.list (SqL.of h1)
      obtain ⟨as, q⟩ := DA.reads I ds _ its h2 rv
      exact ⟨_, .list ho hc hd q⟩
  | .tuple ds, _, _, h, r => by
    cases h with
    | tup h1 h2 =>
      cases r
      obtain ⟨its, rv, ⟨o, ho, hc, n, hd⟩, _⟩ := I.tuple h1
      obtain ⟨as, q⟩ := DA.reads I ds _ its h2 rv
      exact ⟨_, .tuple ho hc hd q⟩
  | .dict ds, _, _, h, r => by
    cases h with
    | dic h1 h2 =>
      cases r
      obtain ⟨z, ny, vs, rk, o, es, ep, ho, hx, hd, _, hp, _⟩ := I.hok _ _ h1
      obtain ⟨e1, rv, da⟩ := kv_of rk h2
      obtain ⟨bs, q2⟩ := DK.reads I ds _ vs h2 rk
      refine ⟨_, Reads.dict (as := []) (bs := bs) ho hx.1 hd ?_ ?_⟩
      · rw [e1]
        exact keys_read hp
      · rw [vals_at hp]
        exact q2
theorem DA.reads (I : Inv X pins σ H s) : ∀ (ds : List PyData) (vs : List V) (us : List Value), DA X.K H vs ds → Vals vs us → ∃ as, ReadsAll s.heap us ds as
  | [], _, _, h, r => by
    cases h
    cases r
    exact ⟨_, .nil⟩
  | d :: ds, _, _, h, r => by
    cases h with
    | cons h1 h2 =>
      cases r with
      | cons r1 r2 =>
        obtain ⟨as, q1⟩ := D.reads I d _ _ h1 r1
        obtain ⟨bs, q2⟩ := DA.reads I ds _ _ h2 r2
        exact ⟨_, .cons q1 q2⟩
theorem DK.reads (I : Inv X pins σ H s) : ∀ (ds : List (PyData × PyData)) (kvs : List (Key × V)) (vs : List (Key × Value)), DK X.K H kvs ds → KV kvs vs → ∃ as, ReadsAll s.heap (vs.map (·.2)) (ds.map (·.2)) as
  | [], _, _, h, r => by
    cases h
    cases r
    exact ⟨_, .nil⟩
  | (k, d) :: ds, _, _, h, r => by
    cases h with
    | cons h1 h2 =>
      cases r with
      | cons r1 r2 =>
        obtain ⟨as, q1⟩ := D.reads I d _ _ h1 r1.2
        obtain ⟨bs, q2⟩ := DK.reads I ds _ _ h2 r2
        exact ⟨_, .cons q1 q2⟩
end
/-! the text of each part, whoever is being written around -/
abbrev RK (X : Cx) (h : Heap) (n : Nat) (u : Value) (t : Str) : Prop := ∃ bs, ReadAtMost h n bs ∧ ReprK X.prog X.w bs h n u t
abbrev RKA (X : Cx) (h : Heap) (n : Nat) (us : List Value) (ts : List Str) : Prop := ∃ bs, ReadAtMost h n bs ∧ ReprAllK X.prog X.w bs h n us ts
theorem ram_nil {h : Heap} {n : Nat} : ReadAtMost h n [] := by
  intro b m
  cases m
theorem rk_flat {h : Heap} {n : Nat} {u : Value} {t : Str} (r : ReprIs X.prog X.w u t) : RK X h n u t := ⟨[], ram_nil, .of_is r _ _ _⟩
theorem rka_cons {h : Heap} {n m : Nat} {u : Value} {us : List Value} {t : Str} {ts : List Str} (a : RK X h n u t) (b : RKA X h m us ts) : RKA X h (max n m) (u :: us) (t :: ts) := by
  obtain ⟨b1, r1, k1⟩ := a
  obtain ⟨b2, r2, k2⟩ := b
  refine ⟨b1 ++ b2, (r1.mono (Nat.le_max_left _ _)).append (r2.mono (Nat.le_max_right _ _)), .cons ?_ ?_⟩
  · exact (k1.more fun b m => List.mem_append_left _ m).level_le (Nat.le_max_left _ _)
  · exact k2.more_le (fun b m => List.mem_append_right _ m) (Nat.le_max_right _ _)
theorem shownAll_map : ∀ ds : List PyData, PyData.shownAll ds = ds.map PyData.shown
  | [] => by simp only [PyData.shownAll, List.map_nil]
  | d :: ds => by simp only [PyData.shownAll, List.map_cons, shownAll_map ds]
theorem keys_rk {h : Heap} : ∀ {es : List DictEntry} {vs : List (Key × Value)}, Pairs (mixKind X.prog X.w) es vs → (∀ p ∈ vs, (kD p.1).showable = true ∧ (kD p.1).shown.length ≤ sizeLine) → RKA X h 0 (es.map (·.key)) (vs.map fun p => (kD p.1).shown)
  | _, _, .nil, _ => ⟨[], ram_nil, .nil⟩
  | _, _, .cons (e := e) (kv := kv) is _ t, ok => by
    have one : RK X h 0 e.key (kD kv.1).shown := by
      have ok1 := ok kv (List.mem_cons_self ..)
      obtain ⟨k, val⟩ := kv
      rcases keyIs_shape is with ⟨i, tk, e1, e2⟩ | ⟨x, tk, e1, e2⟩
      · simp only at e1
        subst e1
        rw [e2]
        have z := ok1.1
        simp only [kD, PyData.showable, decide_eq_true_eq] at z
        rw [show (kD (.inl i)).shown = ((toString i : String) : Str) from PyData.shown_int i]
        exact rk_flat (ReprIs.int tk z)
      · simp only at e1
        subst e1
        rw [e2]
        have z := ok1.2
        rw [show (kD (.inr x)).shown = reprText x from PyData.shown_str x] at z ⊢
        exact rk_flat (ReprIs.str x tk z)
    have r := rka_cons one (keys_rk t fun p m => ok p (List.mem_cons_of_mem _ m))
    exact r
theorem dict_parts (I : Inv X pins σ H s) {a : Addr} {kvs : List (Key × V)} {ds : List (PyData × PyData)} (h1 : H a = some (.dK kvs)) (h2 : DK X.K H kvs ds) (sh : PyData.showableKv ds = true) (fit : (dictText (PyData.shownKv ds)).length ≤ sizeLine)
    (vals : ∀ vs, KV kvs vs → RKA X s.heap (PyData.depthAll (ds.map (·.2))) (vs.map (·.2)) (PyData.shownAll (ds.map (·.2)))) :
    ∃ o es n bs as, s.heap.get? a = some o ∧ o.cls = .type "dict" ∧ o.data = .dict es n ∧ (a == sysModules) = false ∧ a ∉ bs ∧ Reads s.heap (.ref a) (.dict ds) as ∧ ReadAtMost s.heap (PyData.depthKv ds) bs ∧
      ReprEntriesK X.prog X.w bs s.heap (PyData.depthKv ds) es.toList (List.zipWith (fun k v : Str => k ++ ": " ++ v) (PyData.shownAll (ds.map (·.1))) (PyData.shownAll (ds.map (·.2)))) := by
  obtain ⟨z, ny, vs, rk, o, es, ep, ho, hx, hd, _, hp, _⟩ := I.hok _ _ h1
  obtain ⟨e1, rv, da⟩ := kv_of rk h2
  obtain ⟨cs, q2⟩ := DK.reads I ds _ vs h2 rk
  have q1 : ReadsAll s.heap (es.toList.map (·.key)) (ds.map (·.1)) [] := by
    rw [e1]
    exact keys_read hp
  rw [← vals_at hp] at q2
  have rd := Reads.dict ho hx.1 hd q1 q2
  obtain ⟨sh1, sh2⟩ := PyData.showableKv_split ds sh
  have fit1 : ∀ t ∈ PyData.shownAll (ds.map (·.1)), t.length ≤ sizeLine := fun t m => by
    obtain ⟨p, hp, l⟩ := PyData.shownKv_key_le ds t m
    exact Nat.le_trans l (Nat.le_trans (dictText_mem_le hp) fit)
  have ek : PyData.shownAll (ds.map (·.1)) = vs.map fun p => (kD p.1).shown := by
    rw [shownAll_map, e1, List.map_map]
    rfl
  obtain ⟨b1, am1, k1⟩ := keys_rk (X := X) (h := s.heap) hp fun p m => by
    refine ⟨?_, fit1 _ ?_⟩
    · rw [e1] at sh1
      have all : ∀ l : List (Key × Value), PyData.showableAll (l.map fun p => kD p.1) = true → ∀ p ∈ l, (kD p.1).showable = true := by
        intro l
        induction l with
        | nil =>
          intro _ p m
          cases m
        | cons x r ih =>
          intro h p m
          simp only [List.map_cons, PyData.showableAll, Bool.and_eq_true] at h
          rcases List.mem_cons.mp m with e | m
          · rw [e]
            exact h.1
          · exact ih h.2 p m
      exact all vs sh1 p m
    · rw [ek]
      exact List.mem_map.mpr ⟨p, m, rfl⟩
  obtain ⟨b2, am2, k2⟩ := vals vs rk
  rw [← vals_at hp] at k2
  rw [← ek] at k1
  have am : ReadAtMost s.heap (PyData.depthKv ds) (b1 ++ b2) := (am1.mono (Nat.zero_le _)).append (am2.mono (PyData.depthAll_vals_le ds))
  refine ⟨o, es, _, b1 ++ b2, _, ho, hx.1, hd, ny, not_mem_of_deeper rd (by simp only [PyData.depth]; exact Nat.lt_succ_self _) am, rd, am, ?_⟩
  refine ReprEntriesK.of_two es.toList _ _ (k1.more_le (fun b m => List.mem_append_left _ m) (Nat.zero_le _)) ?_
  exact k2.more_le (fun b m => List.mem_append_right _ m) (PyData.depthAll_vals_le ds)
mutual
theorem D.rk (I : Inv X pins σ H s) : ∀ (d : PyData) (v : V) (u : Value), D X.K H v d → RelV v u → d.showable = true → d.shown.length ≤ sizeLine → RK X s.heap d.depth u d.shown
  | .none, _, _, h, r, _, _ => by
    cases h
    cases r
    rw [PyData.shown_none]
    exact rk_flat ReprIs.none
  | .bool b, _, _, h, r, _, _ => by
    cases h
    cases r
    rw [PyData.shown_bool]
    exact rk_flat (ReprIs.bool b)
  | .int i, _, _, h, r, sh, _ => by
    cases h
    obtain ⟨t, rfl⟩ := r
    simp only [PyData.showable, decide_eq_true_eq] at sh
    rw [PyData.shown_int]
    exact rk_flat (ReprIs.int t sh)
  | .str x, _, _, h, r, _, fit => by
    cases h
    obtain ⟨t, rfl⟩ := r
    rw [PyData.shown_str] at fit ⊢
    exact rk_flat (ReprIs.str x t fit)
  | .list ds, _, _, h, r, sh, fit => by
    cases h with
    | lst h1 h2 =>
      cases r
      obtain ⟨its, rv, ⟨o, n, ho, hc, _, hd⟩, _⟩ := I.list (SqL.of h1)
      obtain ⟨as, q⟩ := DA.reads I ds _ its h2 rv
      have rd := Reads.list ho hc hd q
      simp only [PyData.showable] at sh
      simp only [PyData.shown] at fit ⊢
      simp only [PyData.depth]
      obtain ⟨bs, am, kk⟩ := DA.rk I ds _ its h2 rv sh fun t m => Nat.le_trans (listText_mem_le m) fit
      have out := not_mem_of_deeper rd (by simp only [PyData.depth]; exact Nat.lt_succ_self _) am
      have am2 := ReadAtMost.cons rd (by simp only [PyData.depth]; exact Nat.le_succ _) am
      simp only [PyData.depth] at am2
      cases its with
      | nil =>
        cases q
        simp only [PyData.shownAll, listText_nil]
        exact ⟨_, am2, ReprK.listEmpty ho hc hd⟩
      | cons y l =>
        refine ⟨_, am2, ReprK.list ho hc hd out ?_ fun i z e => kk.item i z (by simpa using e)⟩
        simpa using kk.length_eq
  | .tuple ds, _, _, h, r, sh, fit => by
    cases h with
    | tup h1 h2 =>
      cases r
      obtain ⟨its, rv, ⟨o, ho, hc, n, hd⟩, _⟩ := I.tuple h1
      obtain ⟨as, q⟩ := DA.reads I ds _ its h2 rv
      have rd := Reads.tuple ho hc hd q
      simp only [PyData.showable] at sh
      simp only [PyData.shown] at fit ⊢
      simp only [PyData.depth]
      obtain ⟨bs, am, kk⟩ := DA.rk I ds _ its h2 rv sh fun t m => Nat.le_trans (tupleText_mem_le m) fit
      have out := not_mem_of_deeper rd (by simp only [PyData.depth]; exact Nat.lt_succ_self _) am
      have am2 := ReadAtMost.cons rd (by simp only [PyData.depth]; exact Nat.le_succ _) am
      simp only [PyData.depth] at am2
      exact ⟨_, am2, ReprK.tuple ho hc hd out kk⟩
  | .dict ds, _, _, h, r, sh, fit => by
    cases h with
    | dic h1 h2 =>
      cases r
      simp only [PyData.showable] at sh
      simp only [PyData.shown] at fit ⊢
      simp only [PyData.depth]
      obtain ⟨sh1, sh2⟩ := PyData.showableKv_split ds sh
      have fit2 : ∀ t ∈ PyData.shownAll (ds.map (·.2)), t.length ≤ sizeLine := fun t m => by
        obtain ⟨p, hp, l⟩ := PyData.shownKv_val_le ds t m
        exact Nat.le_trans l (Nat.le_trans (dictText_mem_le hp) fit)
      obtain ⟨o, es, n, bs, as, ho, hc, hd, ny, out, rd, am, ee⟩ := dict_parts I h1 h2 sh fit fun vs rk => DK.rk I ds _ vs h2 rk sh2 fit2
      have am3 := ReadAtMost.cons rd (by simp only [PyData.depth]; exact Nat.le_succ _) am
      simp only [PyData.depth] at am3
      rw [PyData.shownKv_eq]
      exact ⟨_, am3, ReprK.dict ho hc hd ny out ee⟩
theorem DA.rk (I : Inv X pins σ H s) : ∀ (ds : List PyData) (vs : List V) (us : List Value), DA X.K H vs ds → Vals vs us → PyData.showableAll ds = true → (∀ t ∈ PyData.shownAll ds, t.length ≤ sizeLine) → RKA X s.heap (PyData.depthAll ds) us (PyData.shownAll ds)
  | [], _, _, h, r, _, _ => by
    cases h
    cases r
    simp only [PyData.shownAll]
    exact ⟨[], ram_nil, .nil⟩
  | d :: ds, _, _, h, r, sh, fit => by
    cases h with
    | cons h1 h2 =>
      cases r with
      | cons r1 r2 =>
        simp only [PyData.showableAll, Bool.and_eq_true] at sh
        simp only [PyData.shownAll] at fit ⊢
        simp only [PyData.depthAll]
        exact rka_cons (D.rk I d _ _ h1 r1 sh.1 (fit _ (List.mem_cons_self ..))) (DA.rk I ds _ _ h2 r2 sh.2 fun t m => fit t (List.mem_cons_of_mem _ m))
theorem DK.rk (I : Inv X pins σ H s) : ∀ (ds : List (PyData × PyData)) (kvs : List (Key × V)) (vs : List (Key × Value)), DK X.K H kvs ds → KV kvs vs → PyData.showableAll (ds.map (·.2)) = true → (∀ t ∈ PyData.shownAll (ds.map (·.2)), t.length ≤ sizeLine) →
    RKA X s.heap (PyData.depthAll (ds.map (·.2))) (vs.map (·.2)) (PyData.shownAll (ds.map (·.2)))
  | [], _, _, h, r, _, _ => by
    cases h
    cases r
    simp only [List.map_nil, PyData.shownAll]
    exact ⟨[], ram_nil, .nil⟩
  | (k, d) :: ds, _, _, h, r, sh, fit => by
    cases h with
    | cons h1 h2 =>
      cases r with
      | cons r1 r2 =>
        simp only [List.map_cons, PyData.showableAll, Bool.and_eq_true] at sh
        simp only [List.map_cons, PyData.shownAll] at fit ⊢
        simp only [PyData.depthAll]
        exact rka_cons (D.rk I d _ _ h1 r1.2 sh.1 (fit _ (List.mem_cons_self ..))) (DK.rk I ds _ _ h2 r2 sh.2 fun t m => fit t (List.mem_cons_of_mem _ m))
end
end

structure Tame (d : PyData) : Prop where
  sh : d.showable = true
  lv : d.leavesShort 2000 = true
  bk : d.bulk ≤ 8000
  dp : d.depth ≤ 60
theorem Tame.fits {d : PyData} (t : Tame d) : d.shown.length ≤ sizeLine := by
  have h := PyData.shown_le_bulk 2000 (by decide) d t.lv
  have := t.bk
  rw [sizeLine_eq]
  omega
def rRepr (K : PySem.W.Frag) : List V → Hp → VK → Prop := fun xs H Q => ∃ v d, xs = [v] ∧ D K H v d ∧ Tame d ∧ Q (.str d.shown) H
section
variable {X : Cx}
theorem call_repr (hg : NoG X.A) (hu : X.A.units + 64 < cLine) : CallR X (.builtin "repr") (rRepr X.K) := by
  intro pins s σ H xs us Q I r h
  obtain ⟨v, d, rfl, m, tm, q⟩ := h
  obtain ⟨u, rfl, ru⟩ := vals1 r
  have fit := tm.fits
  have room : X.A.units + 1 + d.depth < cLine := by
    have := tm.dp
    omega
  have fin : ∀ h' t tk, (∀ b o, s.heap.get? b = some o → h'.get? b = some o) → EP X pins σ Q (.str d.shown t) { s with heap := h', toks := tk } := fun h' t tk k => ⟨.str d.shown, H, I.kept k, ⟨_, rfl⟩, q⟩
  cases m with
  | non =>
    obtain rfl : u = Value.none := ru
    rw [PyData.shown_none] at q
    exact P.repr_of_none ⟨.str _, H, I.tok _, ⟨_, rfl⟩, q⟩
  | bl b =>
    obtain rfl : u = Value.bool b := ru
    rw [PyData.shown_bool] at q
    exact P.repr_of_bool ⟨.str _, H, I.tok _, ⟨_, rfl⟩, q⟩
  | int i =>
    obtain ⟨t, rfl⟩ := ru
    rw [PyData.shown_int] at q
    have z := tm.sh
    simp only [PyData.showable, decide_eq_true_eq] at z
    exact P.repr_of_int z ⟨.str _, H, I.tok _, ⟨_, rfl⟩, q⟩
  | str x =>
    obtain ⟨t, rfl⟩ := ru
    rw [PyData.shown_str] at q fit
    exact P.repr_of_str ⟨.str _, H, I.tok _, ⟨_, rfl⟩, q⟩ fit
  | lst h1 h2 =>
    obtain rfl := ru
    rename_i ds
    obtain ⟨its, rv, ⟨o, n, ho, hc, _, hd⟩, _⟩ := I.list (SqL.of h1)
    obtain ⟨as, rd⟩ := DA.reads I ds _ its h2 rv
    have sh := tm.sh
    simp only [PyData.showable] at sh
    simp only [PyData.depth] at room
    simp only [PyData.shown] at fit fin
    obtain ⟨bs, am, kk⟩ := DA.rk I ds _ its h2 rv sh fun t m => Nat.le_trans (listText_mem_le m) fit
    have out := not_mem_of_deeper (Reads.list ho hc hd rd) (by simp only [PyData.depth]; exact Nat.lt_succ_self _) am
    have ty : s.TypeIs (.ref _) "list" := ⟨o, ho, hc⟩
    apply call_repr_slot (by omega) ty F.slot_list_repr.toG
    cases its with
    | nil =>
      cases rd
      simp only [PyData.shownAll, listText_nil] at fin
      exact call_list_repr_empty ⟨o, ho, hc⟩ ho hd ⟨_, _, rfl, fin s.heap _ _ fun _ _ e => e⟩
    | cons y l =>
      exact call_list_reprK ho hc hd out (by simpa using kk.length_eq) (fun i z e => kk.item i z (by simpa using e)) hg (fun b _ => Clear.nil b) room (fun _ _ e => e) (fun h' t tk k => ⟨_, _, rfl, fin h' t tk k⟩) fit
  | tup h1 h2 =>
    obtain rfl := ru
    rename_i ds
    obtain ⟨its, rv, ⟨o, ho, hc, n, hd⟩, _⟩ := I.tuple h1
    obtain ⟨as, rd⟩ := DA.reads I ds _ its h2 rv
    have sh := tm.sh
    simp only [PyData.showable] at sh
    simp only [PyData.depth] at room
    simp only [PyData.shown] at fit fin
    obtain ⟨bs, am, kk⟩ := DA.rk I ds _ its h2 rv sh fun t m => Nat.le_trans (tupleText_mem_le m) fit
    have out := not_mem_of_deeper (Reads.tuple ho hc hd rd) (by simp only [PyData.depth]; exact Nat.lt_succ_self _) am
    have ty : s.TypeIs (.ref _) "tuple" := ⟨o, ho, hc⟩
    apply call_repr_slot (by omega) ty F.slot_tuple_repr
    exact call_tuple_reprK ho hc hd out kk hg (fun b _ => Clear.nil b) room (fun _ _ e => e) (fun h' t tk k => ⟨_, _, rfl, fin h' t tk k⟩) fit
  | dic h1 h2 =>
    obtain rfl := ru
    rename_i a kvs ds
    have sh := tm.sh
    simp only [PyData.showable] at sh
    simp only [PyData.shown] at fit fin
    simp only [PyData.depth] at room
    obtain ⟨sh1, sh2⟩ := PyData.showableKv_split ds sh
    have fit2 : ∀ t ∈ PyData.shownAll (ds.map (·.2)), t.length ≤ sizeLine := fun t m => by
      obtain ⟨p, hp, l⟩ := PyData.shownKv_val_le ds t m
      exact Nat.le_trans l (Nat.le_trans (dictText_mem_le hp) fit)
    obtain ⟨o, es, n, bs, as, ho, hc, hd, ny, out, rd, am, ee⟩ := dict_parts I h1 h2 sh fit fun vs rk => DK.rk I ds _ vs h2 rk sh2 fit2
    rw [PyData.shownKv_eq] at fit fin
    have ty : s.TypeIs (.ref a) "dict" := ⟨o, ho, hc⟩
    apply call_repr_slot (by omega) ty F.slot_dict_repr
    exact call_dict_reprK ho hc hd ny out ee hg (fun b _ => Clear.nil b) room (fun _ _ e => e) (fun h' t tk k => ⟨_, _, rfl, fin h' t tk k⟩) fit
end

/-! ### types -/
def tyD : PyData → String
  | .none => "NoneType"
  | .bool _ => "bool"
  | .int _ => "int"
  | .str _ => "str"
  | .list _ => "list"
  | .tuple _ => "tuple"
  | .dict _ => "dict"
theorem D.ty {K : PySem.W.Frag} {H : Hp} {v : V} {d : PyData} (m : D K H v d) : TyX K H v (.type (tyD d)) := by
  cases m with
  | non => exact .base .non
  | bl b => exact .base (.bl b)
  | int i => exact .base (.int i)
  | str x => exact .base (.str x)
  | lst h1 h2 => exact .base (.lst h1)
  | tup h1 h2 =>
    rcases h1 with (h | ⟨o, h⟩) | ⟨o, its, n, h, c, _⟩
    · exact .base (.tup h)
    · exact .fTuple h
    · exact .kTuple h c
  | dic h1 h2 => exact .base (.dK h1)
section
variable {K : PySem.W.Frag} {a : Addr} {G : Hp} {σ : St} {te : TE} {C : PyData → Prop}
theorem ev_isi {n : String} {B : Bool → Prop} (h : Ev K a G te σ C) (hk : ∀ d, C d → ∃ b, kitB (tyD d) n = some b ∧ B b) :
    Ev K a G (tCB (rIsi K) (tCons te (tCons (tC (.ty n)) tNil))) σ (IsB B) := fun S H1 f s Q q =>
  h S H1 f s _ fun v d H2 x2 m c => by
    obtain ⟨b, h1, h2⟩ := hk d c
    exact ⟨v, .ty n, .type (tyD d), .type n, b, rfl, .ty n, (m.mono off_le).ty, kit_ty h1, q _ _ H2 x2 (.bl b) ⟨b, rfl, h2⟩⟩
theorem ev_repr (h : Ev K a G te σ C) (ht : ∀ d, C d → Tame d) : Ev K a G (tCB (rRepr K) (tCons te tNil)) σ (fun z => ∃ d, C d ∧ z = .str d.shown) := fun S H1 f s Q q =>
  h S H1 f s _ fun v d H2 x2 m c => ⟨v, d, rfl, m.mono off_le, ht d c, q _ _ H2 x2 (.str _) ⟨d, c, rfl⟩⟩
theorem ev_reprE {d : PyData} (h : Ev K a G te σ (· = d)) (ht : Tame d) : Ev K a G (tCB (rRepr K) (tCons te tNil)) σ (· = .str d.shown) :=
  (ev_repr h fun _ e => e ▸ ht).imp fun _ ⟨_, e, z⟩ => by rw [z, e]
end
end LK
set_option Elab.async false
set_option linter.all false
set_option maxRecDepth 100000
set_option maxHeartbeats 4000000
/-! LK5: operators and built-ins that serve several kinds of data; what they give by data -/
namespace LK
open PySem PySem.Spec L2
open PyProof.Rows hiding St

section
variable {X : Cx}
def rAddS : R2 := fun x y H Q => ∃ i j, x = .str i ∧ y = .str j ∧ i.length + j.length ≤ sizeLine ∧ Q (.str (i ++ j)) H
def rAddA (K : PySem.W.Frag) : R2 := fun x y H Q => rI0 (fun i j => .int (i + j)) x y H Q ∨ rAddS x y H Q ∨ rCat x y H Q ∨ rCatT K x y H Q
theorem oAdd : OpR X (binaryOp .Add) (rAddA X.K) := op_add.or (OpR.or (r := rAddS) op_add_str (op_cat.or op_catT))
def rMulS : R2 := fun x y H Q => ∃ z n, x = .str z ∧ y = .int n ∧ MulOk z n ∧ Q (.str (Txt.mul z n)) H
theorem op_mulS : OpR X (binaryOp .Mult) rMulS := by
  intro pins s σ H x y v u Q I rx ry h
  obtain ⟨z, n, rfl, rfl, ok, q⟩ := h
  obtain ⟨t, rfl⟩ := rx
  obtain ⟨t', rfl⟩ := ry
  exact SB.mul ok fun t2 k => ⟨.str _, H, I.tok _, ⟨_, rfl⟩, q⟩
def rMulA : R2 := fun x y H Q => rI CMulX (fun i j => .int (i * j)) x y H Q ∨ rMulS x y H Q ∨ rRep x y H Q
theorem oMul : OpR X (binaryOp .Mult) rMulA := op_mulX.or (op_mulS.or op_rep)
def rLenN (K : PySem.W.Frag) (z : Bool) : R2 := fun x y H Q => ∃ (a b : Addr) (xs ys : List V), x = .ref a ∧ y = .ref b ∧ SqL K H a xs ∧ SqL K H b ys ∧ xs.length ≠ ys.length ∧ Q (.bl z) H
theorem op_eqN (hu : X.A.units + 64 < cLine) : OpR X (compareOp .Eq) (rLenN X.K false) := by
  intro pins s σ H x y v u Q I rx ry h
  obtain ⟨a, b, xs, ys, rfl, rfl, h1, h2, hne, q⟩ := h
  cases rx
  cases ry
  obtain ⟨i1, r1, p1, _⟩ := I.list h1
  obtain ⟨i2, r2, p2, _⟩ := I.list h2
  have e1 := r1.length
  have e2 := r2.length
  exact SeqAt.RcAt.lists_lengths p1.isList p2.isList (by simp only [List.size_toArray, bne_iff_ne]; omega) (by omega) _ _ _ _ ⟨.bl false, H, I, rfl, q⟩
theorem op_neN (hu : X.A.units + 64 < cLine) : OpR X (compareOp .NotEq) (rLenN X.K true) := by
  intro pins s σ H x y v u Q I rx ry h
  obtain ⟨a, b, xs, ys, rfl, rfl, h1, h2, hne, q⟩ := h
  cases rx
  cases ry
  obtain ⟨i1, r1, p1, _⟩ := I.list h1
  obtain ⟨i2, r2, p2, _⟩ := I.list h2
  have e1 := r1.length
  have e2 := r2.length
  exact SeqAt.RcNeAt.lists_lengths p1.isList p2.isList (by simp only [List.size_toArray, bne_iff_ne]; omega) (by omega) _ _ _ _ ⟨.bl true, H, I, rfl, q⟩
def rEqA (K : PySem.W.Frag) : R2 := fun x y H Q => rEq x y H Q ∨ rEqD K x y H Q ∨ rLenN K false x y H Q
def rNeA (K : PySem.W.Frag) : R2 := fun x y H Q => rNe x y H Q ∨ rNeD K x y H Q ∨ rLenN K true x y H Q
theorem oEq (hu : X.A.units + 64 < cLine) : OpR X (compareOp .Eq) (rEqA X.K) := op_eq.or (OpR.or (op_eqD hu) (op_eqN hu))
theorem oNe (hu : X.A.units + 64 < cLine) : OpR X (compareOp .NotEq) (rNeA X.K) := op_ne.or (OpR.or (op_neD hu) (op_neN hu))
def rSgn : R2 := fun x y H Q => ∃ (c : Nat) (z : Str), x = .str ⟨#[c]⟩ ∧ y = .str z ∧ Q (.bl (decide (c ∈ z.cps.toList))) H
def rInA (K : PySem.W.Frag) : R2 := fun x y H Q => rSgn x y H Q ∨ rIn K false x y H Q
theorem oIn : OpR X (compareOp .In) (rInA X.K) := OpR.or (r := rSgn) op_in_sign op_in_seq
def rLenA (K : PySem.W.Frag) : List V → Hp → VK → Prop := fun xs H Q => ∃ x n, xs = [x] ∧ LenV K x H n ∧ Q (.int (n : Nat)) H
theorem cLen : CallR X (.builtin "len") (rLenA X.K) := call_len
def rDm : List V → Hp → VK → Prop := fun xs H Q => ∃ i j, xs = [.int i, .int j] ∧ CDivW i j ∧ ∀ p, H p = none → Q (.ref p) (upd H p (.tup [.int (i / j), .int (i % j)]))
theorem call_divmodX : CallR X (.builtin "divmod") rDm := by
  intro pins s σ H xs us Q I r h
  obtain ⟨i, j, rfl, ⟨pos, small⟩, q⟩ := h
  obtain ⟨u1, u2, rfl, ⟨t1, rfl⟩, ⟨t2, rfl⟩⟩ := vals2 r
  have nz : j ≠ 0 := by omega
  have nn : 0 ≤ j := by omega
  have fr := I.fresh
  apply PyProof.Rows.divmod_int nz _ (.inl (PyProof.noPylong_of_log2 small))
  rw [Int.fdiv_eq_ediv_of_nonneg i nn, Int.fmod_eq_emod_of_nonneg i nn]
  refine ⟨.ref s.heap.objs.size, _, I.laid (o := .tup [.int (i / j), .int (i % j)]) (fun b o e => Heap.get?_push_of_some _ e) (Nat.le_refl _) ?_, rfl, q _ fr⟩
  refine ⟨by show 2 ≤ sizeLine; decide, [.int (i / j) s.toks, .int (i % j) (s.toks + 1)], .cons ⟨_, rfl⟩ (.cons ⟨_, rfl⟩ .nil), ?_⟩
  exact ⟨_, Heap.get?_push_size s.heap rfl, rfl, 0, rfl⟩
/-! the same with the written part by its own name -/
theorem kAdd {K : PySem.W.Frag} (e : X.K = K := by rfl) : OpR X (binaryOp .Add) (rAddA K) := e ▸ oAdd
theorem kEq {K : PySem.W.Frag} (hu : X.A.units + 64 < cLine) (e : X.K = K := by rfl) : OpR X (compareOp .Eq) (rEqA K) := e ▸ oEq hu
theorem kNe {K : PySem.W.Frag} (hu : X.A.units + 64 < cLine) (e : X.K = K := by rfl) : OpR X (compareOp .NotEq) (rNeA K) := e ▸ oNe hu
theorem kIn {K : PySem.W.Frag} (e : X.K = K := by rfl) : OpR X (compareOp .In) (rInA K) := e ▸ oIn
theorem kLen {K : PySem.W.Frag} (e : X.K = K := by rfl) : CallR X (.builtin "len") (rLenA K) := e ▸ cLen
theorem kRepr {K : PySem.W.Frag} (hg : NoG X.A) (hu : X.A.units + 64 < cLine) (e : X.K = K := by rfl) : CallR X (.builtin "repr") (rRepr K) := by
  subst e
  exact call_repr hg hu
theorem kIx {K : PySem.W.Frag} (e : X.K = K := by rfl) : IxR X (rIx K) := e ▸ ix_seq
end

section
variable {K : PySem.W.Frag} {a : Addr} {S : List Addr} {σ : St} {G H : Hp} {ta tb tc te : TE} {tr : TA} {C C1 C2 : PyData → Prop} {r r' : R2} {d e : PyData}
theorem R2D.inl (h : R2D K a r d e C) : R2D K a (fun x y H Q => r x y H Q ∨ r' x y H Q) d e C := fun S H x y f m1 m2 Q q => .inl (h S H x y f m1 m2 Q q)
theorem R2D.inr (h : R2D K a r' d e C) : R2D K a (fun x y H Q => r x y H Q ∨ r' x y H Q) d e C := fun S H x y f m1 m2 Q q => .inr (h S H x y f m1 m2 Q q)
theorem R2D.imp (h : R2D K a r d e C1) (i : ∀ z, C1 z → C z) : R2D K a r d e C := fun S H x y f m1 m2 Q q => h S H x y f m1 m2 Q fun v z H2 x2 m c => q v z H2 x2 m (i z c)
/-! + -/
theorem ra_int {i j : Int} : R2D K a (rAddA K) (.int i) (.int j) (· = .int (i + j)) := R2D.inl (r2_I0 (fun _ => .int _) rfl)
theorem ra_lst {ds es : List PyData} (h : ds.length + es.length ≤ 1000000) : R2D K a (rAddA K) (.list ds) (.list es) (· = .list (ds ++ es)) := R2D.inr (R2D.inr (R2D.inl fun S H x y f m1 m2 Q q => by
  cases m1 with
  | lst h1 n1 =>
    cases m2 with
    | lst h2 n2 =>
      exact ⟨_, _, _, _, rfl, rfl, off_le _ _ h1, off_le _ _ h2, by rw [n1.length, n2.length]; exact Nat.le_trans h (by decide), fun p hp =>
        q _ _ _ (Ext.new hp) (D.new_lst hp (f.out hp) (n1.append n2)) rfl⟩))
/-! == -/
theorem r2_neStr {x y : Str} : R2D K a rNe (.str x) (.str y) (· = .bool (!decide (x = y))) := by
  intro S H u v f mx my Q q
  cases mx
  cases my
  refine ⟨rfl, q _ _ H Ext.refl (.bl _) ?_⟩
  by_cases e : x = y
  · rw [e]
    simp
  · have e' : ¬ V.str x = V.str y := fun z => e (V.str.inj z)
    rw [decide_eq_false e, decide_eq_false e']
theorem ev_neS {x y : Str} (ha : Ev K a G ta σ (· = .str x)) (hb : Ev K a G tb σ (· = .str y)) : Ev K a G (tOp (rNeA K) ta tb) σ (· = .bool (!decide (x = y))) := by
  refine ev_op ha hb ?_
  rintro _ _ rfl rfl
  exact R2D.inl r2_neStr
/-! in -/
/-! len -/
def lenD : PyData → Option Nat
  | .str x => some x.length
  | .list xs => some xs.length
  | .tuple xs => some xs.length
  | _ => none
theorem ev_len {cI : Int → Prop} (h : Ev K a G te σ C) (hl : ∀ d, C d → ∃ n, lenD d = some n ∧ n ≤ 1000000 ∧ cI (n : Nat)) : Ev K a G (tCB (rLenA K) (tCons te tNil)) σ (IsI cI) := fun S H1 f s Q q =>
  h S H1 f s _ fun v d H2 x2 m c => by
    obtain ⟨n, e, z, hn⟩ := hl d c
    have big : ∀ k : Nat, k ≤ 1000000 → k ≤ sizeLine := fun k hk => Nat.le_trans hk (by decide)
    cases m with
    | str x =>
      cases e
      exact ⟨.str x, x.length, rfl, ⟨big _ z, rfl⟩, q _ _ H2 x2 (.int _) ⟨_, rfl, hn⟩⟩
    | lst h1 h2 =>
      cases e
      exact ⟨_, _, rfl, .inl ⟨_, SqL.of (off_le _ _ h1), h2.length.symm⟩, q _ _ H2 x2 (.int _) ⟨_, rfl, hn⟩⟩
    | tup h1 h2 =>
      cases e
      exact ⟨_, _, rfl, .inr ⟨_, sqT_same off_le h1, h2.length.symm⟩, q _ _ H2 x2 (.int _) ⟨_, rfl, hn⟩⟩
    | _ => cases e
/-! all -/
/-! items -/
theorem ev_ixL {cI : Int → Prop} (ha : Ev K a G ta σ C1) (hb : Ev K a G tb σ (IsI cI)) (hr : ∀ d i, C1 d → cI i → ∃ ds z, (d = .list ds ∨ d = .tuple ds) ∧ atI ds i = some z ∧ C z) : Ev K a G (tOp (rIx K) ta tb) σ C := by
  refine ev_op ha hb ?_
  rintro d _ c1 ⟨i, rfl, ci⟩
  obtain ⟨ds, z, e, hz, cz⟩ := hr d i c1 ci
  intro S H x y f m1 m2 Q q
  cases m2
  have item : ∀ {xs : List V}, DA K (off S H) xs ds → ∃ v, atI xs i = some v ∧ D K (off S H) v z := by
    intro xs da
    unfold atI at hz ⊢
    rw [da.length]
    cases hx : ixN ds.length i with
    | none =>
      rw [hx] at hz
      cases hz
    | some j =>
      rw [hx] at hz
      exact da.get hz
  rcases e with rfl | rfl
  · cases m1 with
    | lst h1 n1 =>
      obtain ⟨v, e1, e2⟩ := item n1
      exact .inl ⟨_, _, i, v, rfl, rfl, SqL.of (off_le _ _ h1), e1, q v z H Ext.refl e2 cz⟩
  · cases m1 with
    | tup h1 n1 =>
      obtain ⟨v, e1, e2⟩ := item n1
      exact .inr (.inl ⟨_, _, i, v, rfl, rfl, sqT_same off_le h1, e1, q v z H Ext.refl e2 cz⟩)
/-! a < b < c of ints -/
/-! what is walked -/
end
end LK
set_option Elab.async false
set_option linter.all false
set_option maxRecDepth 100000
set_option maxHeartbeats 4000000
/-! LK6: written data, joined texts, items by a draw -/
namespace LK
open PySem PySem.Spec L2
open PyProof.Rows hiding St
section
variable {K : PySem.W.Frag} {a : Addr} {S : List Addr} {σ : St} {G H : Hp} {ta tb tc te : TE} {tr : TA} {C C1 C2 : PyData → Prop}
theorem ev_negE {i : Int} (h : Ev K a G te σ (· = .int i)) : Ev K a G (tUn (rU fun i => .int (-i)) te) σ (· = .int (-i)) := by
  refine ev_un h ?_
  rintro _ rfl S H x f m Q q
  cases m
  exact ⟨i, rfl, q _ _ H Ext.refl (.int _) rfl⟩
theorem ev_powE {i j : Int} (ha : Ev K a G ta σ (· = .int i)) (hb : Ev K a G tb σ (· = .int j)) (hc : CPow i j) : Ev K a G (tOp (rI CPow fun i j => .int (i ^ j.toNat)) ta tb) σ (· = .int (i ^ j.toNat)) := by
  refine ev_op ha hb ?_
  rintro _ _ rfl rfl
  exact r2_I hc (fun _ => .int _) rfl
theorem ev_dnew : Ev K a G tDNewK σ (· = .dict []) := fun S H1 f s Q q p hp =>
  q _ _ _ (Ext.new hp) (.dic (off_mk (f.out hp) upd_same) .nil) rfl
theorem ev_catL {ds es : List PyData} (ha : Ev K a G ta σ (· = .list ds)) (hb : Ev K a G tb σ (· = .list es)) (h : ds.length + es.length ≤ 1000000) : Ev K a G (tOp (rAddA K) ta tb) σ (· = .list (ds ++ es)) := by
  refine ev_op ha hb ?_
  rintro _ _ rfl rfl
  exact ra_lst h
theorem at_mem {ds : List PyData} {i : Int} (h0 : 0 ≤ i) (h1 : i < (ds.length : Nat)) : ∃ z, atI ds i = some z ∧ z ∈ ds := by
  have hl : i.toNat < ds.length := by omega
  refine ⟨ds[i.toNat], ?_, List.getElem_mem hl⟩
  have e : ((i.toNat : Nat) : Int) = i := Int.toNat_of_nonneg h0
  have h := atI_nat (List.getElem?_eq_getElem hl)
  rw [e] at h
  exact h
theorem ev_pick {ds : List PyData} (ha : Ev K a G ta σ (· = .list ds)) (hb : Ev K a G tb σ (IsI fun k => 0 ≤ k ∧ k < (ds.length : Nat))) : Ev K a G (tOp (rIx K) ta tb) σ (· ∈ ds) := by
  refine ev_ixL ha hb ?_
  rintro _ i rfl ⟨h0, h1⟩
  obtain ⟨z, e, m⟩ := at_mem h0 h1
  exact ⟨ds, z, .inl rfl, e, m⟩
end
/-! ### joined texts -/
section
variable {K : PySem.W.Frag} {a : Addr} {S : List Addr} {σ : St} {G H : Hp} {ta tb tc te : TE} {tr : TA} {C C1 C2 : PyData → Prop}
end
section
variable {X : Cx} {K : PySem.W.Frag} {o e : Expr} {es : List Expr} {to : TE} {t : TA} {pos apos : Pos}
end
section
variable {K : PySem.W.Frag} {a : Addr} {S : List Addr} {σ : St} {G H : Hp} {ta tb tc te : TE} {tr : TA} {C C1 C2 : PyData → Prop}
end
end LK
set_option Elab.async false
set_option linter.all false
set_option maxRecDepth 100000
set_option maxHeartbeats 4000000
/-! LK7: own exceptions whose __init__ names its own base class and keeps a field; made, raised, caught, asked; defaults -/
namespace LK
open PySem PySem.Spec L2
open PyProof.Rows hiding St

/-! ### classes -/
theorem kit_sub {K : PySem.W.Frag} {C B : Addr} {b : Bool} (h : PySem.W.subIn K (.ref C) (.ref B) = some b) (hs : PySem.W.subIn K (.ref C) (.ref C) = some true) (hc : PySem.W.isClsIn K B = true) (ht : PySem.W.typeIn K (.ref B) = some (.type "type")) :
    PySem.W.kitOne K (.ref C) (.ref B) = some b := by
  unfold PySem.W.kitOne
  by_cases e : C = B
  · subst e
    rw [h] at hs
    injection hs with hs
    rw [hs, if_pos (beq_self_eq_true _)]
  · rw [if_neg (by simpa using e)]
    unfold PySem.W.kitCls
    have hc' : (PySem.W.clsIn K B).isSome = true := hc
    dsimp only
    rw [hc', ht]
    exact h
theorem kit_subT {K : PySem.W.Frag} {C : Addr} {T : String} {b : Bool} (h : PySem.W.subIn K (.ref C) (.type T) = some b) (hm : PySem.W.kitMeta T = true) : PySem.W.kitOne K (.ref C) (.type T) = some b := by
  unfold PySem.W.kitOne
  rw [if_neg (by simp)]
  unfold PySem.W.kitCls
  dsimp only
  rw [hm]
  exact h

/-! ### __init__ -/
section
variable {X : Cx} {e : Expr} {es : List Expr} {ta : TA} {te : TE} {x : Str} {L : Addr} {p p1 p2 pos pos' : Pos}
def MethIs (X : Cx) (o : Expr) (m : Str) (p2 pos : Pos) (as : List Expr) (pl : Sem Bool) : Prop :=
  eval (.Call (.Attribute o m p2) as [] pos) X.env = (eval o X.env >>= fun ov => standAt p2.atName >>= fun _ => holding [ov] (getMethod ov m pl) >>= fun fx => callWith pos fx.1 fx.2 (backTo pos (starEach as X.env)) (backToKw pos (keywordEach [] X.env)))
end
/-! ### a class that may be raised: C(v) -/
section
variable {X : Cx} {e : Expr} {te : TE} {x f : Str} {C : Addr} {p pos pos' : Pos} {W : WX}
end

/-! ### calls that may raise, with defaults -/
section
variable {X : Cx} {CX : CXT} {k : Nat} {ps : List Str} {sp : Sp} {dvs : List V} {E : St → XK} {x : Str} {p pos : Pos} {e : Expr} {es : List Expr} {t : TA}
end
/-! ### the caught exception: its field, isinstance -/
section
variable {X : Cx} {a : Addr} {oe : Obj} {cls : Value} {d : Option Addr} {pn : List (Addr × Obj)}
end

/-! ### promises with a way out, by data -/
section
variable {K : PySem.W.Frag} {a : Addr} {S : List Addr} {σ : St} {G H : Hp} {ta tb te : TE} {tr : TA} {C C1 C2 : PyData → Prop} {A1 : List PyData → Prop} {Dn : Ends} {W : WX} {Cl : Addr} {f : Str}
/-! ### ints compared -/
theorem ev_eqI {cI cJ : Int → Prop} {cB : Bool → Prop} (ha : Ev K a G ta σ (IsI cI)) (hb : Ev K a G tb σ (IsI cJ)) (hr : ∀ i j, cI i → cJ j → cB (decide (i = j))) : Ev K a G (tOp (rEqA K) ta tb) σ (IsB cB) := by
  refine ev_op ha hb ?_
  rintro _ _ ⟨i, rfl, hi⟩ ⟨j, rfl, hj⟩
  refine R2D.inl fun S H x y f mx my Q q => ?_
  cases mx
  cases my
  refine ⟨rfl, q _ (.bool (decide (i = j))) H Ext.refl ?_ ⟨_, rfl, hr i j hi hj⟩⟩
  have e : decide (V.int i = V.int j) = decide (i = j) := by simp
  rw [e]
  exact .bl _
theorem ev_neI {cI cJ : Int → Prop} {cB : Bool → Prop} (ha : Ev K a G ta σ (IsI cI)) (hb : Ev K a G tb σ (IsI cJ)) (hr : ∀ i j, cI i → cJ j → cB (!decide (i = j))) : Ev K a G (tOp (rNeA K) ta tb) σ (IsB cB) := by
  refine ev_op ha hb ?_
  rintro _ _ ⟨i, rfl, hi⟩ ⟨j, rfl, hj⟩
  refine R2D.inl fun S H x y f mx my Q q => ?_
  cases mx
  cases my
  refine ⟨rfl, q _ (.bool (!decide (i = j))) H Ext.refl ?_ ⟨_, rfl, hr i j hi hj⟩⟩
  have e : decide (V.int i = V.int j) = decide (i = j) := by simp
  rw [e]
  exact .bl _
end
/-! ### // by any divisor but 0 -/
end LK
set_option Elab.async false
set_option linter.all false
set_option maxRecDepth 100000
set_option maxHeartbeats 4000000
/-! LK8: sizes of data, pairs of slots, walks over a tuple's items, ratios -/
namespace LK
open PySem PySem.Spec L2
open PyProof.Rows hiding St

/-! ### sizes -/
structure Sz (n k : Nat) (d : PyData) : Prop where
  sh : d.showable = true
  lv : d.leavesShort 2000 = true
  bk : d.bulk ≤ n
  dp : d.depth ≤ k
theorem Sz.tame {n k : Nat} {d : PyData} (h : Sz n k d) (hn : n ≤ 8000 := by decide) (hk : k ≤ 60 := by decide) : Tame d := ⟨h.sh, h.lv, Nat.le_trans h.bk hn, Nat.le_trans h.dp hk⟩
theorem Sz.up {n k m j : Nat} {d : PyData} (h : Sz n k d) (hn : n ≤ m) (hk : k ≤ j) : Sz m j d := ⟨h.sh, h.lv, Nat.le_trans h.bk hn, Nat.le_trans h.dp hk⟩
theorem sz_all {n k : Nat} : ∀ ds : List PyData, (∀ d ∈ ds, Sz n k d) → PyData.showableAll ds = true ∧ PyData.leavesShortAll 2000 ds = true ∧ PyData.bulkAll ds ≤ ds.length * (n + 1) ∧ PyData.depthAll ds ≤ k
  | [], _ => ⟨by simp [PyData.showableAll], by simp [PyData.leavesShortAll], by simp [PyData.bulkAll], by simp [PyData.depthAll]⟩
  | d :: ds, h => by
    obtain ⟨a, b, c, e⟩ := sz_all ds fun z m => h z (List.mem_cons_of_mem _ m)
    obtain ⟨a1, b1, c1, e1⟩ := h d List.mem_cons_self
    refine ⟨by simp [PyData.showableAll, a, a1], by simp [PyData.leavesShortAll, b, b1], ?_, ?_⟩
    · simp only [PyData.bulkAll, List.length_cons, Nat.add_mul, Nat.one_mul]
      omega
    · simp only [PyData.depthAll]
      omega
theorem Sz.list {n k : Nat} {ds : List PyData} (h : ∀ d ∈ ds, Sz n k d) : Sz (ds.length * (n + 1)) (k + 1) (.list ds) := by
  obtain ⟨a, b, c, e⟩ := sz_all ds h
  refine ⟨by simp [PyData.showable, a], by simp [PyData.leavesShort, b], ?_, ?_⟩
  · simp only [PyData.bulk]
    exact c
  · simp only [PyData.depth]
    omega
theorem Sz.tup {n k : Nat} {ds : List PyData} (h : ∀ d ∈ ds, Sz n k d) : Sz (ds.length * (n + 1)) (k + 1) (.tuple ds) := by
  obtain ⟨a, b, c, e⟩ := sz_all ds h
  refine ⟨by simp [PyData.showable, a], by simp [PyData.leavesShort, b], ?_, ?_⟩
  · simp only [PyData.bulk]
    exact c
  · simp only [PyData.depth]
    omega
theorem sz_int {i : Int} (h : i.natAbs < 2 ^ 1000) : Sz 0 0 (.int i) := by
  have hl : i.natAbs.log2 < 1001 := by
    by_cases z : i.natAbs = 0
    · rw [z]
      decide
    · exact Nat.lt_succ_of_lt ((Nat.log2_lt z).mpr h)
  refine ⟨?_, ?_, by simp [PyData.bulk], by simp [PyData.depth]⟩
  · simp only [PyData.showable, decide_eq_true_eq]
    omega
  · simp only [PyData.leavesShort, decide_eq_true_eq, PyData.shown_int]
    have := int_text_length_le (a := i) (k := 1001) (by decide) hl
    rw [PySem.ofString_length]
    omega
def szB (n k : Nat) (d : PyData) : Bool := d.showable && d.leavesShort 2000 && decide (d.bulk ≤ n) && decide (d.depth ≤ k)
theorem Sz.of {n k : Nat} {d : PyData} (h : szB n k d = true) : Sz n k d := by
  unfold szB at h
  simp only [Bool.and_eq_true, decide_eq_true_eq] at h
  exact ⟨h.1.1.1, h.1.1.2, h.1.2, h.2⟩

section
variable {K : PySem.W.Frag} {a : Addr} {S : List Addr} {σ : St} {G H : Hp} {ta tb te : TE} {tt : TT} {tr : TA} {C C1 C2 : PyData → Prop} {B : Bool → Prop} {A1 : List PyData → Prop} {Dn : Ends}
theorem ev_at {ds : List PyData} {i : Int} {d : PyData} (ha : Ev K a G ta σ (fun z => z = .list ds ∨ z = .tuple ds)) (hb : Ev K a G tb σ (· = .int i)) (h : atI ds i = some d) : Ev K a G (tOp (rIx K) ta tb) σ (· = d) := by
  refine ev_ixL ha (ev_isI (c := (· = i)) hb rfl) ?_
  rintro z _ hz rfl
  exact ⟨ds, d, hz, h, rfl⟩
end

/-! ### ratios -/
def ratioD (n d : Int) : PyData :=
  let t := if d < 0 then -n else n
  let l := if d < 0 then -d else d
  let p : Int := (Int.gcd t l : Nat)
  if l = p then .int (t / p) else .tuple [.int (t / p), .int (l / p)]
end LK
set_option Elab.async false
set_option linter.all false
set_option maxRecDepth 100000
set_option maxHeartbeats 4000000
/-! LK9: texts: slices, str, int, split, f-strings, signs; x is None; unpacking a pair; for over a list of data -/
namespace LK
open PySem PySem.Spec L2
open PyProof.Rows hiding St
open TL (tl)

section
variable {K : PySem.W.Frag} {a : Addr} {S : List Addr} {σ : St} {G H : Hp} {ta tb te : TE} {tt : TT} {tr : TA} {C C1 C2 : PyData → Prop} {B : Bool → Prop} {A1 : List PyData → Prop} {Dn : Ends}
/-! ### slices -/
/-! ### str(i), int(x) -/
/-! ### split -/
theorem DA.of_strs : ∀ ys : List Str, DA K H (ys.map V.str) (ys.map PyData.str)
  | [] => .nil
  | y :: ys => .cons (.str y) (DA.of_strs ys)
/-! ### f'{i}/{j}' -/
/-! ### x is None -/
/-! ### all([c in z for c in x]) -/
/-! ### a call that may raise -/
/-! ### x, y = a pair -/
end
end LK
set_option Elab.async false
set_option linter.all false
set_option maxRecDepth 100000
set_option maxHeartbeats 4000000
/-! LK10: own exceptions over any built-in one (LookupError, RuntimeError, ArithmeticError too) -/
namespace LK
open PySem PySem.Spec L2
open PyProof.Rows hiding St

def Over (bt l : List Value) : Prop := ∃ cs : List Addr, l = cs.map Value.ref ++ bt
theorem Over.has {bt l : List Value} (h : Over bt l) (X : String) : l.contains (.type X) = bt.contains (.type X) := by
  obtain ⟨cs, rfl⟩ := h
  induction cs with
  | nil => rfl
  | cons c cs ih =>
    rw [List.map_cons, List.cons_append, List.contains_cons, ih]
    rfl
theorem Over.cons {bt l : List Value} {C : Addr} (h : Over bt l) : Over bt (.ref C :: l) := by
  obtain ⟨cs, rfl⟩ := h
  exact ⟨C :: cs, rfl⟩
structure TailOk (B newId initId : String) (bt : List Value) : Prop where
  base : ExcBaseFacts B newId initId bt
  sto : StoreFacts B bt "object.__setattr__" "object"
  obj : bt.contains (.type "object") = true
  ne : bt.isEmpty = false
theorem Over.pass {B newId initId : String} {bt l : List Value} (T : TailOk B newId initId bt) (h : Over bt l) (v : Value) : refuseLoop v "__setattr__" l = pure () := by
  obtain ⟨cs, rfl⟩ := h
  induction cs with
  | nil => exact T.sto.passes v
  | cons c cs ih =>
    rw [List.map_cons, List.cons_append, refuseLoop_ref]
    exact ih
theorem tail_VE : TailOk "ValueError" "ValueError.__new__" "ValueError.__init__" [.type "ValueError", .type "Exception", .type "BaseException", .type "object"] := ⟨F.excBase_ValueError, F.store_ValueError, by decide +kernel, by decide +kernel⟩
theorem tail_LE : TailOk "LookupError" "LookupError.__new__" "LookupError.__init__" [.type "LookupError", .type "Exception", .type "BaseException", .type "object"] := ⟨F.excBase_LookupError, F.store_LookupError, by decide +kernel, by decide +kernel⟩
theorem tail_RE : TailOk "RuntimeError" "RuntimeError.__new__" "RuntimeError.__init__" [.type "RuntimeError", .type "Exception", .type "BaseException", .type "object"] := ⟨F.excBase_RuntimeError, F.store_RuntimeError, by decide +kernel, by decide +kernel⟩
theorem tail_AE : TailOk "ArithmeticError" "ArithmeticError.__new__" "ArithmeticError.__init__" [.type "ArithmeticError", .type "Exception", .type "BaseException", .type "object"] := ⟨F.excBase_ArithmeticError, F.store_ArithmeticError, by decide +kernel, by decide +kernel⟩
/-! ### a field is stored: the first one, a further one -/
section
open Builtin Builtin.ObjectAttr
variable {P : Program} {w : World} {A : Around} {R : Result → Shared → Prop} {hp : Heap} {g : Array GenState} {dr : Drawn} {t : Nat} {os : OsState} {K : PySem.W.Frag} {f : Str} {tk : Tok} {u : Value} {x C dx : Addr} {fv : Array Value} {cd : ClassData}
  {B newId initId : String} {bt : List Value} {m0 : Str → Option Value} {nl : List Str}
abbrev exI (C : Addr) (d : Option Addr) (fv : Array Value) : Obj := { cls := .ref C, dict := d, data := .fields fv }
theorem sub_obj {d : Option Addr} {od : Option Obj} (T : TailOk B newId initId bt) (X : K.In hp) (I : PySem.W.InstAt hp x (exI C d fv) C od) (hcd : PySem.W.clsIn K C = some cd) (hm : Over bt cd.mro) : PySem.W.Looks (model P w) hp (isInstance (.ref x) (.type "object")) true := by
  have hob : cd.mro.contains (.type "object") = true := by
    rw [hm.has]
    exact T.obj
  have ne : cd.mro.isEmpty = false := by
    cases e : cd.mro with
    | nil =>
      rw [e] at hob
      cases hob
    | cons _ _ => rfl
  apply I.type.andThen
  apply PySem.W.looks_mroIn X
  unfold PySem.W.mroIn
  rw [hcd, Option.bind_some, if_neg, hob]
  rw [ne]
  decide
theorem osa_1 (T : TailOk B newId initId bt) (X : K.In hp) (hx : hp.get? x = some (exI C none fv)) (hcd : PySem.W.clsIn K C = some cd) (hm : Over bt cd.mro) (hh : cd.hasDict = true) (ha : PySem.W.findIn K (.ref C) f = some none)
    (hq : ∀ (h' : Heap) (tk' : Tok) (dx : Addr), (∀ b o, b ≠ x → hp.get? b = some o → h'.get? b = some o) → hp.objs.size ≤ dx → dx ≠ x → h'.get? x = some (exI C (some dx) fv) → h'.Ns1 dx (fun y => if y = f then some u else none) → R (.ok (.ret .none)) ⟨h', g, dr, tk', os⟩) :
    codeAny (model P w) A (.call (.builtin "object.__setattr__") ⟨[.ref x, .str f tk, u], []⟩) R ⟨hp, g, dr, t, os⟩ := by
  have I0 : PySem.W.InstAt hp x (exI C none fv) C none := ⟨hx, rfl, rfl, trivial⟩
  have SO := F.store_object
  have far : x ≠ hp.objs.size := Nat.ne_of_lt (Heap.lt_size hx)
  apply codeAny_call_builtin SO.slot.plain SO.entry
  refine @PySem.W.check_slot (model P w) _ _ ⟨hp, g, dr, t, os⟩ "object.__setattr__" "object" "__setattr__" (.ref x) [.str f tk, u] [] _ SO.kind SO.split (sub_obj T X I0 hcd hm) (SO.args (.ref x) (.str f tk) u) ?_
  have lc : PySem.W.Looks (model P w) hp (classData C) cd := PySem.W.looks_clsIn X hcd
  have lm : PySem.W.Looks (model P w) hp (mroOf (.ref C)) cd.mro := lc.andThen .now
  have l3 : PySem.W.Looks (model P w) hp (storeTaker? none) none := .now
  rw [PySem.W.osa_eq, refuse_eq]
  refine wpAny_bind (wpAny_bind (I0.type.at (wpAny_bind (lm.at ?_))))
  rw [hm.pass T]
  refine wpAny_pure (wpAny_bind (I0.type.at (wpAny_bind ((PySem.W.looks_findIn X ha).at (wpAny_bind (l3.at ?_))))))
  show wpAny _ _ (storeInOwnDict (.ref x) (.ref C) (.str f tk) f u false) _ _ _
  obtain ⟨a1, a2, a3, a4, a5, a6, a7, a8, a9, a10, a11⟩ := cd
  dsimp only at hh
  subst hh
  unfold storeInOwnDict
  unfold ownDictForStores
  repeat (first | with_reducible refine wpAny_loadPart_at hx ?_ | with_reducible refine lc.at ?_ | with_reducible refine PySem.HandSPX.store_in_new ?_ ?_ | wp_step)
  · exact ⟨_, #[], _, ((Heap.get?_update_ne _ _ _ _ far.symm).trans (Heap.get?_push_at rfl rfl)), rfl, fun e he => absurd he (by simp), fun _ => rfl⟩
  · intro h1 tk1 hn hs
    have hx1 : (hp.push { cls := .type "dict", data := .dict #[] }).get? x = some (exI C none fv) := Heap.get?_push_of_some _ hx
    refine hq h1 tk1 hp.objs.size (fun b o hb ho => ?_) (Nat.le_refl _) far.symm ?_ hn
    · have nd : b ≠ hp.objs.size := Nat.ne_of_lt (Heap.lt_size ho)
      refine (hs.2 b nd).trans ?_
      exact (Heap.get?_update_ne _ _ _ _ hb).trans (Heap.get?_push_of_some _ ho)
    · exact (hs.2 x far).trans (Heap.get?_update_self _ hx1 rfl)
theorem osa_2 (T : TailOk B newId initId bt) (X : K.In hp) (hx : hp.get? x = some (exI C (some dx) fv)) (hns : hp.Ns1 dx m0) (hw : Within m0 nl) (hz : nl.length ≤ 1000) (hcd : PySem.W.clsIn K C = some cd) (hm : Over bt cd.mro) (hh : cd.hasDict = true)
    (ha : PySem.W.findIn K (.ref C) f = some none)
    (hq : ∀ (h' : Heap) (tk' : Tok), (∀ b o, b ≠ dx → hp.get? b = some o → h'.get? b = some o) → h'.Ns1 dx (fun y => if y = f then some u else m0 y) → R (.ok (.ret .none)) ⟨h', g, dr, tk', os⟩) :
    codeAny (model P w) A (.call (.builtin "object.__setattr__") ⟨[.ref x, .str f tk, u], []⟩) R ⟨hp, g, dr, t, os⟩ := by
  obtain ⟨oD, _, _, hoD, _, _⟩ := hns.count hw
  have I0 : PySem.W.InstAt hp x (exI C (some dx) fv) C (some oD) := ⟨hx, rfl, rfl, hoD⟩
  have SO := F.store_object
  apply codeAny_call_builtin SO.slot.plain SO.entry
  refine @PySem.W.check_slot (model P w) _ _ ⟨hp, g, dr, t, os⟩ "object.__setattr__" "object" "__setattr__" (.ref x) [.str f tk, u] [] _ SO.kind SO.split (sub_obj T X I0 hcd hm) (SO.args (.ref x) (.str f tk) u) ?_
  have lc : PySem.W.Looks (model P w) hp (classData C) cd := PySem.W.looks_clsIn X hcd
  have lm : PySem.W.Looks (model P w) hp (mroOf (.ref C)) cd.mro := lc.andThen .now
  have l3 : PySem.W.Looks (model P w) hp (storeTaker? none) none := .now
  rw [PySem.W.osa_eq, refuse_eq]
  refine wpAny_bind (wpAny_bind (I0.type.at (wpAny_bind (lm.at ?_))))
  rw [hm.pass T]
  refine wpAny_pure (wpAny_bind (I0.type.at (wpAny_bind ((PySem.W.looks_findIn X ha).at (wpAny_bind (l3.at ?_))))))
  show wpAny _ _ (storeInOwnDict (.ref x) (.ref C) (.str f tk) f u false) _ _ _
  obtain ⟨a1, a2, a3, a4, a5, a6, a7, a8, a9, a10, a11⟩ := cd
  dsimp only at hh
  subst hh
  unfold storeInOwnDict
  unfold ownDictForStores
  repeat (first | with_reducible refine wpAny_loadPart_at hx ?_ | with_reducible refine lc.at ?_ | with_reducible refine PySem.OEX.store_in_old hns hw hz ?_ | wp_step)
  intro h1 tk1 hn hs
  exact hq h1 tk1 (fun b o hb ho => (hs.2 b hb).trans ho) hn
end
/-! ### classes over such a base -/
structure OexB (B newId initId : String) (bt : List Value) (K : PySem.W.Frag) (C : Addr) : Prop where
  tail : TailOk B newId initId bt
  obj : ∃ nm q N bs bm sn sub ab col dd k0 k1 k2 k3 k5, K.lookup C = some (excClassObj nm q C N bs bm true sn sub ab col dd k0 k1 k2 k3 k5 newId) ∧ Over bt bm
  sa : PySem.W.findIn K (.ref C) "__setattr__" = some (some (.builtin "object.__setattr__"))
  exC : PySem.W.subIn K (.ref C) (.type "BaseException") = some true
  tyC : PySem.W.typeIn K (.ref C) = some (.type "type")
  kC : PySem.W.keepIn K (.ref C) = true
section
variable {X : Cx} {pins : List (Addr × Obj)} {σ : St} {H : Hp} {s : Shared} {a C dx : Addr} {f : Str} {y : V} {u : Value} {fs : List (Str × V)} {Q : Unit → Shared → Prop} {E : Value → Shared → Prop} {A : Around} {B newId initId : String} {bt : List Value}
theorem OexB.cls {K : PySem.W.Frag} (T : OexB B newId initId bt K C) : ∃ cd, PySem.W.clsIn K C = some cd ∧ Over bt cd.mro ∧ cd.hasDict = true := by
  obtain ⟨nm, q, N, bs, bm, sn, sub, ab, col, dd, k0, k1, k2, k3, k5, hC, hbm⟩ := T.obj
  refine ⟨{ name := nm, bases := bs, mro := .ref C :: bm, ns := N, qualname := q, hasDict := true, slotNames := sn, subclasses := sub, abstract := ab, collection := col, hasDel := false }, ?_, hbm.cons, rfl⟩
  unfold PySem.W.clsIn
  rw [hC] <;> rfl
theorem put_1 (T : OexB B newId initId bt X.K C) (I : Inv X pins σ H s) (e : H a = some (exo a C none)) (hno : PySem.W.findIn X.K (.ref C) f = some none) (ry : RelV y u)
    (h : ∀ dx s', H dx = none → dx ≠ a → Inv X pins σ (upd (upd H dx (exd dx [(f, y)])) a (exo a C (some dx))) s' → Q () s') : wpAny (model X.prog X.w) A (setAttr (.ref a) f u) Q E s := by
  obtain ⟨cd, hcd, hm, hh⟩ := T.cls
  obtain ⟨t1, ho⟩ := exo_at I.hok e
  obtain ⟨hp, g, dr, t, os⟩ := s
  apply PySem.W.set_plain I.kIn (ox := exI C none #[.ref t1, .none, .none, .none, .bool false, .none]) (od := none) ⟨ho, rfl, rfl, trivial⟩ T.sa
  refine osa_1 T.tail I.kIn ho hcd hm hh hno fun h1 tk1 dx k dn dne hx hn => ?_
  have fresh : H dx = none := I.hok.fresh dn
  have low : ∀ {b : Addr} {o : Obj}, hp.get? b = some o → b ≠ dx := fun {b o} q => Nat.ne_of_lt (Nat.lt_of_lt_of_le (Heap.lt_size q) dn)
  have na : ∀ {b : Addr}, H b = none → b ≠ a := fun {b} n z => by
    subst z
    rw [e] at n
    cases n
  have keepO : ∀ {b : Addr} {o : HO}, H b = some o → o ≠ exo a C none → upd (upd H dx (exd dx [(f, y)])) a (exo a C (some dx)) b = some o := fun {b o} q d => by
    have hb : b ≠ a := fun z => by
      rw [z, e] at q
      exact d (Option.some.inj q).symm
    rw [upd_ne hb, upd_ne (ne_of_none q fresh)]
    exact q
  have U : Un X.fs [] H (upd (upd H dx (exd dx [(f, y)])) a (exo a C (some dx))) hp h1 := by
    constructor
    · exact fun b o q n _ _ => k b o (na n) q
    · exact fun b o q n _ _ => ⟨o.slots, k b o (na n) q⟩
    · intro b o q n _
      rw [upd_ne (na n), upd_ne (low q)]
      exact n
    · intro b o q _
      by_cases hb : b = a
      · subst hb
        exact ⟨_, hx⟩
      · exact ⟨o, k b o hb q⟩
    · exact fun b xs q => keepO q fun z => exo_tup z.symm
    · exact fun b o v q => keepO q fun z => exo_frz z.symm
    · exact fun b ps q => ⟨#[], by rw [keepO q fun z => exo_tbl z.symm]; simp⟩
  refine h dx _ fresh dne (I.un (t' := tk1) U fun b o q => ?_)
  by_cases hb : b = a
  · subst hb
    rw [upd_same] at q
    cases q
    exact exo_ok hx
  rw [upd_ne hb] at q
  by_cases hd : b = dx
  · subst hd
    rw [upd_same] at q
    cases q
    exact exd_ok hn (relO_put (fs := []) ry fun g => True.intro)
  rw [upd_ne hd] at q
  refine (I.hok b o q).stay (fun c v hc z => k c v ?_ z) (fun c hc => keepO hc fun z => exo_own z.symm) fun c xs hc => keepO hc fun z => exo_tup z.symm
  rcases hc with hc | hc
  · rw [hc]
    exact hb
  · exact at_ne e hc exo_own
theorem put_2 (T : OexB B newId initId bt X.K C) (I : Inv X pins σ H s) (e : H a = some (exo a C (some dx))) (ed : H dx = some (exd dx fs)) (hl : fs.length ≤ 900) (hno : PySem.W.findIn X.K (.ref C) f = some none) (ry : RelV y u)
    (h : ∀ s', Inv X pins σ (upd H dx (exd dx ((f, y) :: fs))) s' → Q () s') : wpAny (model X.prog X.w) A (setAttr (.ref a) f u) Q E s := by
  obtain ⟨cd, hcd, hm, hh⟩ := T.cls
  obtain ⟨t1, ho⟩ := exo_at I.hok e
  obtain ⟨mA, hns, rel⟩ := exd_at I.hok ed
  have hw := within_of rel
  obtain ⟨hp, g, dr, t, os⟩ := s
  obtain ⟨oD, _, _, hoD, _, _⟩ := hns.count hw
  apply PySem.W.set_plain I.kIn (ox := exI C (some dx) #[.ref t1, .none, .none, .none, .bool false, .none]) (od := some oD) ⟨ho, rfl, rfl, hoD⟩ T.sa
  refine osa_2 T.tail I.kIn ho hns hw (by rw [List.length_map]; omega) hcd hm hh hno fun h1 tk1 k hn => ?_
  have there : ∃ o, h1.get? dx = some o := by
    obtain ⟨o, _, _, e1, _⟩ := hn
    exact ⟨o, e1⟩
  have J := I.write (t' := tk1) (x := dx) (e := dx) (o := exd dx ((f, y) :: fs)) (by rw [ed]; exact True.intro) (.inl rfl) k there (exd_ok hn (relO_put ry rel))
  exact h _ J
theorem init_B {us : List Value} {Q : Value → Shared → Prop} (T : OexB B newId initId bt X.K C) (I : Inv X pins σ H s) (e : H a = some (exo a C none)) (hl : us.length ≤ sizeLine) (h : ∀ s', Inv X pins σ H s' → Q .none s') :
    wpAny (model X.prog X.w) A (call (.builtin initId) (.ref a :: us)) Q E s := by
  obtain ⟨nm, q, N, bs, bm, sn, sub, ab, col, dd, k0, k1, k2, k3, k5, hC, hbm⟩ := T.obj
  obtain ⟨t1, ho⟩ := exo_at I.hok e
  obtain ⟨hp, g, dr, t, os⟩ := s
  apply wpAny_call
  refine PySem.HandSPX.init_base T.tail.base hbm.has (I.kIn _ _ hC) ho hl fun h1 t2 k hx => ?_
  have J := I.write (t' := t) (x := a) (e := a) (o := exo a C none) (by rw [e]; exact True.intro) (.inl rfl) k ⟨_, hx⟩ (exo_ok hx)
  have eu : upd H a (exo a C none) = H := by
    funext b
    by_cases hb : b = a
    · rw [hb, upd_same, e]
    · exact upd_ne hb
  rw [eu] at J
  exact h _ J
end
/-! ### __init__ of such a class -/
structure XBB (initId : String) (K : PySem.W.Frag) (mg : Str → Option Value) (x : Str) (L : Addr) : Prop where
  g : mg x = some (.ref L)
  rd : ClX.CRead K L (.type "type")
  it : PySem.W.findCls K (.ref L) (.type "type") "__init__" = some (.val (.builtin initId))
  hd : PySem.W.handedIn (.builtin initId) = true
def tBiB (B newId initId : String) (bt : List Value) (K : PySem.W.Frag) (ta : TA) : TE := fun σ H Q => ta σ H fun vs H1 => ∃ (a C : Addr) (ws : List V), vs = .ref a :: ws ∧ ws.length ≤ 1000 ∧ OexB B newId initId bt K C ∧ H1 a = some (exo a C none) ∧ Q .non H1
def tOstB (B newId initId : String) (bt : List Value) (K : PySem.W.Frag) (f : Str) (to te : TE) : TS := fun D σ H => te σ H fun y H1 => to σ H1 fun x H2 => ∃ a C : Addr, x = .ref a ∧ OexB B newId initId bt K C ∧ PySem.W.findIn K (.ref C) f = some none ∧
  ((H2 a = some (exo a C none) ∧ ∀ dx, H2 dx = none → dx ≠ a → D.nx σ (upd (upd H2 dx (exd dx [(f, y)])) a (exo a C (some dx)))) ∨
    ∃ (dx : Addr) (fs : List (Str × V)), H2 a = some (exo a C (some dx)) ∧ H2 dx = some (exd dx fs) ∧ fs.length ≤ 900 ∧ D.nx σ (upd H2 dx (exd dx ((f, y) :: fs))))
section
variable {X : Cx} {e o : Expr} {es : List Expr} {ta : TA} {te to : TE} {x f : Str} {L : Addr} {p p1 p2 pos p' : Pos} {B newId initId : String} {bt : List Value}
theorem pe_biB (Z : XBB initId X.K X.mg x L) (hg : Gl X x) (ha : PA X (e :: es) ta) {pl : Sem Bool} (hc : MethIs X (.Name x p1) "__init__" p2 pos (e :: es) pl := by rfl) (hdb : (x == ("__debug__" : Str)) = false := by decide)
    (he : starEach (e :: es) X.env = (false, eval e X.env) :: starEach es X.env := by rfl) (hpl : (backTo pos (starEach es X.env)).any (·.1) = false := by rfl) :
    PE X (.Call (.Attribute (.Name x p1) "__init__" p2) (e :: es) [] pos) (tBiB B newId initId bt X.K ta) := by
  constructor
  intro pins s σ H Q I h
  apply PySem.W.methodCall_KW (pl := pl) _ hc
  apply ld_glob I hg Z.g _ hdb
  apply PySem.W.method_cls I.kIn Z.rd.ga
  apply PySem.W.cls_value I.kIn Z.rd.rd Z.it Z.hd
  show wpAny (model X.prog X.w) X.A (callWith pos (.builtin initId) [] (backTo pos (starEach (e :: es) X.env)) []) _ _ _
  apply callWith_method1 _ he hpl
  apply thn (ha.run pos pins _ σ H _ (I.tok _) h)
  rintro us s1 ⟨vs, H1, I1, r1, a, C, ws, rfl, hl, T, ea, q⟩
  cases r1 with
  | @cons _ u0 _ ur ra rw' =>
    cases (show u0 = Value.ref a from ra)
    have hlen : ur.length ≤ sizeLine := by
      have := Paired.length rw'
      rw [sizeLine_eq]
      omega
    exact init_B T I1 ea hlen fun s' J => ⟨.non, H1, J, rfl, q⟩
theorem ps_ostB (ho : PE X o to) (he : PE X e te) (hs : swapsWith e (some (.Attribute o f p')) pos.line X.env = pure false := by rfl) : PS X (.Assign [.Attribute o f p'] e pos) (tOstB B newId initId bt X.K f to te) := by
  constructor
  intro pins s σ H D I h
  refine plainObj_wpAny_Assign_Attribute (thn (he.run pins s σ H _ I h) fun v s1 z => ?_) hs
  obtain ⟨y, H1, I1, r1, q1⟩ := z
  refine thn (ho.run pins s1 σ H1 _ I1 q1) fun u s2 z => ?_
  obtain ⟨x, H2, I2, r2, a, C, rfl, T, hno, q⟩ := z
  cases (show u = Value.ref a from r2)
  rcases q with ⟨ea, q⟩ | ⟨dx, fs, ea, ed, hl, q⟩
  · exact put_1 T I2 ea hno r1 fun dx s' n ne J => ⟨σ, _, J, q dx n ne⟩
  · exact put_2 T I2 ea ed hl hno r1 fun s' J => ⟨σ, _, J, q⟩
end
/-! ### C(v) raised, C over any such base -/
structure XCB (B newId initId : String) (bt : List Value) (K : PySem.W.Frag) (mg : Str → Option Value) (x : Str) (C : Addr) : Prop where
  g : mg x = some (.ref C)
  ox : OexB B newId initId bt K C
  fl : XfC K C
  is : ExcC K C
  self : PySem.W.subIn K (.ref C) (.ref C) = some true
section
variable {X : Cx} {e : Expr} {te : TE} {x f : Str} {C : Addr} {p pos pos' : Pos} {W : WX} {B newId initId : String} {bt : List Value}
end
end LK
set_option Elab.async false
set_option linter.all false
set_option maxRecDepth 100000
set_option maxHeartbeats 4000000
/-! LK11: for over a list or a tuple -/
namespace LK
open PySem PySem.Spec L2
open PyProof.Rows hiding St
def iSeq (K : PySem.W.Frag) (te : TE) : TI := fun σ H R => te σ H fun x H1 => ∃ a, x = .ref a ∧ (((∃ xs, SqL K H1 a xs) ∧ R (Itl K a) H1) ∨ ((∃ xs, SqT K H1 a xs) ∧ R (Itt K a) H1))
section
variable {X : Cx} {tg e : Expr} {te : TE}
theorem pi_seq (he : PE X e te) : PI X tg e (iSeq X.K te) := by
  constructor
  intro pins s σ H R I h
  apply thn (he.run pins s σ H _ I h)
  rintro v s1 ⟨x, H1, I1, r1, a, rfl, q⟩
  cases r1
  have fp : ∀ b ∈ [s1.heap.objs.size], _ := fun b hb => by
    cases List.mem_singleton.mp hb
    exact I1.fpOk (Nat.le_refl _) (I1.hok.fresh (Nat.le_refl _))
  rcases q with ⟨⟨xs, hq⟩, q⟩ | ⟨⟨xs, hq⟩, q⟩
  · obtain ⟨its, rv, p, _⟩ := I1.list hq
    apply wpAny_pyIter_list p.isList
    exact ⟨s1.heap.objs.size, [s1.heap.objs.size], _, _, H1, rfl, I1.kept (t' := s1.toks) (fun b o z => Heap.get?_push_of_some _ z), turn_list a _, ⟨_, Heap.get?_push_size _ rfl, rfl, rfl⟩, fp, q⟩
  · obtain ⟨its, rv, p, _⟩ := I1.tuple hq
    apply wpAny_pyIter_tuple (show s1.heap.IsTuple a its.toArray from p)
    exact ⟨s1.heap.objs.size, [s1.heap.objs.size], _, _, H1, rfl, I1.kept (t' := s1.toks) (fun b o z => Heap.get?_push_of_some _ z), turn_tuple a _, ⟨_, Heap.get?_push_size _ rfl, rfl, rfl⟩, fp, q⟩
end
section
variable {K : PySem.W.Frag} {a : Addr} {S : List Addr} {σ : St} {G H : Hp} {te : TE} {g : TG} {tb : TS} {Dn : Ends}
end
end LK
set_option Elab.async false
set_option linter.all false
set_option maxRecDepth 100000
set_option maxHeartbeats 4000000
/-! LK12: defs with *args alone, the guards known -/
namespace LK
open PySem PySem.Spec L2
open PyProof.Rows hiding St
section
variable {CX : CXT} {P : Program} {w : World} {K : PySem.W.Frag} {mg : Str → Option Value} {base : Heap} {k : Nat} {f : Addr} {name qual : Str} {params : Arguments} {body : List Stmt} {scope : Scope} {dV kV doc pm cdv ct oc : Value} {an od : Option Addr}
  {osl : Array (Option Value)} {N : List Str} {sp : Sp} {pv : Str}
end
section
variable {X : Cx} {CX : CXT} {k : Nat} {sp : Sp} {E : St → XK} {x : Str} {p pos : Pos} {e : Expr} {es : List Expr} {t : TA}
end
end LK
set_option Elab.async false
set_option linter.all false
set_option maxRecDepth 100000
set_option maxHeartbeats 4000000
/-! LK13: readings with exact values (for walk_at "ev", the rows of gen.py's @@MAC@@) -/
namespace LK
open PySem PySem.Spec L2
open PyProof.Rows hiding St
theorem DA.one {K : PySem.W.Frag} {H : Hp} {vs : List V} {d : PyData} (h : DA K H vs [d]) : ∃ v, vs = [v] ∧ D K H v d := by
  cases h with
  | cons h1 h2 =>
    cases h2
    exact ⟨_, rfl, h1⟩
theorem DA.two {K : PySem.W.Frag} {H : Hp} {vs : List V} {d e : PyData} (h : DA K H vs [d, e]) : ∃ v w, vs = [v, w] ∧ D K H v d ∧ D K H w e := by
  cases h with
  | cons h1 h2 =>
    obtain ⟨w, rfl, h3⟩ := DA.one h2
    exact ⟨_, w, rfl, h1, h3⟩
section
variable {K : PySem.W.Frag} {a : Addr} {S : List Addr} {σ : St} {G H : Hp} {ta tb tc te : TE} {t u : TT} {tr : TA} {C C1 C2 : PyData → Prop} {A1 : List PyData → Prop} {Dn : Ends} {b c : Bool} {i j : Int} {d e : PyData}
/-! tests -/
theorem et_valE (h : Ev K a G te σ (· = .bool b)) : EvT a G (tB te) σ (· = b) := et_val (h.imp fun _ z => ⟨_, z, rfl⟩)
theorem et_testE (h : Ev K a G te σ (· = .bool b)) : EvT a G (tTest te) σ (· = b) := et_test (h.imp fun _ z => ⟨_, z, rfl⟩)
theorem et_notE (h : EvT a G t σ (· = b)) : EvT a G (tNot t) σ (· = !b) := et_not h fun _ z => by rw [z]
theorem et_andE (h1 : EvT a G t σ (· = b)) (h2 : b = true → EvT a G u σ (· = c)) : EvT a G (tAnd t u) σ (· = (b && c)) :=
  et_and h1 (fun z => (h2 z.symm).imp fun _ y => by rw [y, ← z, Bool.true_and]) fun z => by rw [← z, Bool.false_and]
theorem et_orE (h1 : EvT a G t σ (· = b)) (h2 : b = false → EvT a G u σ (· = c)) : EvT a G (tOr t u) σ (· = (b || c)) :=
  et_or h1 (fun z => (h2 z.symm).imp fun _ y => by rw [y, ← z, Bool.false_or]) fun z => by rw [← z, Bool.true_or]
theorem ev_andE (h1 : Ev K a G ta σ (· = .bool b)) (h2 : b = true → Ev K a G tb σ (· = .bool c)) : Ev K a G (tAndV ta tb) σ (· = .bool (b && c)) :=
  ev_andV (B := (· = b)) (h1.imp fun _ z => ⟨_, z, rfl⟩) (fun z => (h2 z.symm).imp fun _ y => by rw [y, ← z, Bool.true_and]) fun z => by rw [← z, Bool.false_and]
theorem ev_orE (h1 : Ev K a G ta σ (· = .bool b)) (h2 : b = false → Ev K a G tb σ (· = .bool c)) : Ev K a G (tOrV ta tb) σ (· = .bool (b || c)) :=
  ev_orV (B := (· = b)) (h1.imp fun _ z => ⟨_, z, rfl⟩) (fun z => (h2 z.symm).imp fun _ y => by rw [y, ← z, Bool.false_or]) fun z => by rw [← z, Bool.true_or]
theorem ev_notE (h : Ev K a G ta σ (· = .bool b)) : Ev K a G (tNotV ta) σ (· = .bool (!b)) := ev_notV (h.imp fun _ z => ⟨_, z, by rfl⟩)
/-! ints -/
theorem ev_addE (ha : Ev K a G ta σ (· = .int i)) (hb : Ev K a G tb σ (· = .int j)) : Ev K a G (tOp (rAddA K) ta tb) σ (· = .int (i + j)) := by
  refine ev_op ha hb ?_
  rintro _ _ rfl rfl
  exact ra_int
theorem ev_i0E {g : Int → Int → Int} (ha : Ev K a G ta σ (· = .int i)) (hb : Ev K a G tb σ (· = .int j)) : Ev K a G (tOp (rI0 fun i j => .int (g i j)) ta tb) σ (· = .int (g i j)) := by
  refine ev_op ha hb ?_
  rintro _ _ rfl rfl
  exact r2_I0 (fun _ => .int _) rfl
theorem ev_cmpE {g : Int → Int → Bool} (ha : Ev K a G ta σ (· = .int i)) (hb : Ev K a G tb σ (· = .int j)) : Ev K a G (tOp (rI0 fun i j => .bl (g i j)) ta tb) σ (· = .bool (g i j)) := by
  refine ev_op ha hb ?_
  rintro _ _ rfl rfl
  exact r2_I0 (fun _ => .bl _) rfl
theorem ev_mulE (ha : Ev K a G ta σ (· = .int i)) (hb : Ev K a G tb σ (· = .int j)) (h : CMulX i j) : Ev K a G (tOp rMulA ta tb) σ (· = .int (i * j)) := by
  refine ev_op ha hb ?_
  rintro _ _ rfl rfl
  exact R2D.inl (r2_I h (fun _ => .int _) rfl)
theorem ev_eqIE (ha : Ev K a G ta σ (· = .int i)) (hb : Ev K a G tb σ (· = .int j)) : Ev K a G (tOp (rEqA K) ta tb) σ (· = .bool (decide (i = j))) :=
  (ev_eqI (cI := (· = i)) (cJ := (· = j)) (cB := (· = decide (i = j))) (ha.imp fun _ z => ⟨_, z, rfl⟩) (hb.imp fun _ z => ⟨_, z, rfl⟩) fun _ _ z y => by rw [z, y]).imp fun _ ⟨_, z, y⟩ => by rw [z, y]
theorem ev_neIE (ha : Ev K a G ta σ (· = .int i)) (hb : Ev K a G tb σ (· = .int j)) : Ev K a G (tOp (rNeA K) ta tb) σ (· = .bool (!decide (i = j))) :=
  (ev_neI (cI := (· = i)) (cJ := (· = j)) (cB := (· = !decide (i = j))) (ha.imp fun _ z => ⟨_, z, rfl⟩) (hb.imp fun _ z => ⟨_, z, rfl⟩) fun _ _ z y => by rw [z, y]).imp fun _ ⟨_, z, y⟩ => by rw [z, y]
/-! isinstance by a built-in class -/
def isTy (n : String) (d : PyData) : Bool := (kitB (tyD d) n).getD false
theorem ev_isiE {n : String} (h : Ev K a G te σ (· = d)) (hk : (kitB (tyD d) n).isSome = true) : Ev K a G (tCB (rIsi K) (tCons te (tCons (tC (.ty n)) tNil))) σ (· = .bool (isTy n d)) :=
  (ev_isi (B := (· = isTy n d)) h fun z hz => by
    subst hz
    cases e : kitB (tyD z) n with
    | none =>
      rw [e] at hk
      cases hk
    | some b => exact ⟨b, rfl, by unfold isTy; rw [e]; rfl⟩).imp fun _ ⟨_, z, y⟩ => by rw [z, y]
/-! len -/
theorem ev_lenE {n : Nat} (h : Ev K a G te σ (· = d)) (hl : lenD d = some n) (hn : n ≤ 1000000) : Ev K a G (tCB (rLenA K) (tCons te tNil)) σ (· = .int (n : Nat)) :=
  (ev_len (cI := (· = ((n : Nat) : Int))) h fun z hz => by
    subst hz
    exact ⟨n, hl, hn, rfl⟩).imp fun _ ⟨_, z, y⟩ => by rw [z, y]
/-! an item -/
theorem ev_atL {ds : List PyData} (ha : Ev K a G ta σ (· = .list ds)) (hb : Ev K a G tb σ (· = .int i)) (h : atI ds i = some d) : Ev K a G (tOp (rIx K) ta tb) σ (· = d) := ev_at (ha.imp fun _ z => .inl z) hb h
theorem ev_atT {ds : List PyData} (ha : Ev K a G ta σ (· = .tuple ds)) (hb : Ev K a G tb σ (· = .int i)) (h : atI ds i = some d) : Ev K a G (tOp (rIx K) ta tb) σ (· = d) := ev_at (ha.imp fun _ z => .inr z) hb h
/-! data without dicts, for the deep == -/
mutual
def noDict : PyData → Bool
  | .none => true
  | .bool _ => true
  | .int _ => true
  | .str _ => true
  | .list ds => noDictAll ds
  | .tuple ds => noDictAll ds
  | .dict _ => false
def noDictAll : List PyData → Bool
  | [] => true
  | d :: ds => noDict d && noDictAll ds
end
mutual
theorem D.dp : ∀ (d : PyData) (v : V), D K H v d → noDict d = true → Dp K H v d
  | .none, _, h, _ => by
    cases h
    exact .non
  | .bool b, _, h, _ => by
    cases h
    exact .bl b
  | .int i, _, h, _ => by
    cases h
    exact .int i
  | .str x, _, h, _ => by
    cases h
    exact .str x
  | .list ds, _, h, n => by
    cases h with
    | lst h1 h2 => exact .lst (SqL.of h1) (DA.dp ds _ h2 (by simpa [noDict] using n))
  | .tuple ds, _, h, n => by
    cases h with
    | tup h1 h2 => exact .tup h1 (DA.dp ds _ h2 (by simpa [noDict] using n))
  | .dict ds, _, _, n => by simp [noDict] at n
theorem DA.dp : ∀ (ds : List PyData) (vs : List V), DA K H vs ds → noDictAll ds = true → DpAll K H vs ds
  | [], _, h, _ => by
    cases h
    exact .nil
  | d :: ds, _, h, n => by
    cases h with
    | cons h1 h2 =>
      simp only [noDictAll, Bool.and_eq_true] at n
      exact .cons (D.dp d _ h1 n.1) (DA.dp ds _ h2 n.2)
end
structure EqOk (d : PyData) : Prop where
  nd : noDict d = true
  sh : SeqAt.shaped d = true
theorem ev_eqDE (ha : Ev K a G ta σ (· = d)) (hb : Ev K a G tb σ (· = e)) (h1 : EqOk d) (h2 : EqOk e) : Ev K a G (tOp (rEqA K) ta tb) σ (· = .bool (PyData.eqv d e)) := by
  refine ev_op ha hb ?_
  rintro _ _ rfl rfl
  exact R2D.inr <| R2D.inl fun S H x y f m1 m2 Q q => ⟨_, _, D.dp _ _ (m1.mono off_le) h1.nd, D.dp _ _ (m2.mono off_le) h2.nd, h1.sh, h2.sh, q _ _ H Ext.refl (.bl _) rfl⟩
theorem ev_neDE (ha : Ev K a G ta σ (· = d)) (hb : Ev K a G tb σ (· = e)) (h1 : EqOk d) (h2 : EqOk e) : Ev K a G (tOp (rNeA K) ta tb) σ (· = .bool (!PyData.eqv d e)) := by
  refine ev_op ha hb ?_
  rintro _ _ rfl rfl
  exact R2D.inr <| R2D.inl fun S H x y f m1 m2 Q q => ⟨_, _, D.dp _ _ (m1.mono off_le) h1.nd, D.dp _ _ (m2.mono off_le) h2.nd, h1.sh, h2.sh, q _ _ H Ext.refl (.bl _) rfl⟩
/-! a list beside [] -/
/-! one argument, exactly -/
theorem ev_callE {pre : List PyData → Prop} {post : List PyData → PyData → Prop} {E : XK} {ds : List PyData} {C : PyData → Prop} (h : EvA K a G tr σ (· = ds)) (hp : pre ds) (hc : ∀ d, post ds d → C d) : Ev K a G (tCall (spG K pre post) [] E tr) σ C :=
  ev_callG h (fun _ z => z ▸ hp) fun _ d z p => hc d (z ▸ p)
def fnG (K : PySem.W.Frag) (pre : List PyData → Prop) (fn : List PyData → PyData) : Sp := spG K pre fun ds r => r = fn ds
theorem ev_fn {pre : List PyData → Prop} {fn : List PyData → PyData} {E : XK} {ds : List PyData} (h : EvA K a G tr σ (· = ds)) (hp : pre ds) : Ev K a G (tCall (fnG K pre fn) [] E tr) σ (· = fn ds) := ev_callE h hp fun _ z => z
theorem q_setE {i : Nat} (h : Ev K a G te σ (· = d)) (f : Fr a S H) (s : Same G (off S H)) (q : ∀ v H', Ext a H H' → Fr a S H' → D K (off S H') v d → Dn.nx (σ.set i (some v)) H') : tAsg te (gName i) Dn σ H :=
  q_set h f s fun v d' H' x f' m z => q v H' x f' (z ▸ m)
theorem q_retE (h : Ev K a G te σ (· = d)) (f : Fr a S H) (s : Same G (off S H)) (q : ∀ v H', Ext a H H' → D K (off S H') v d → Dn.rt v H') : tRet te Dn σ H :=
  q_ret h f s fun v d' H' x m z => q v H' x (z ▸ m)
theorem q_ifE {t1 t2 : TS} (h : EvT a G t σ (· = b)) (f : Fr a S H) (s : Same G (off S H)) (q1 : ∀ H', Ext a H H' → Fr a S H' → b = true → t1 Dn σ H') (q2 : ∀ H', Ext a H H' → Fr a S H' → b = false → t2 Dn σ H') : tIfS t t1 t2 Dn σ H :=
  q_if h f s (fun H' x f' z => q1 H' x f' z.symm) fun H' x f' z => q2 H' x f' z.symm
end
end LK
set_option Elab.async false
set_option linter.all false
set_option maxRecDepth 100000
set_option maxHeartbeats 4000000
/-! LK14: numbers as data; the promises of the program's and the laws' shared small defs -/
namespace LK
open PySem PySem.Spec L2
open PyProof.Rows hiding St
section
variable {P : Program} {w : World} {K : PySem.W.Frag} {mg : Str → Option Value} {base : Heap} {a : Addr} {G : Hp} {S : List Addr} {H : Hp}
def isRatD : PyData → Bool
  | .int _ => true
  | .tuple [.int x, .int y] => decide (2 ≤ y) && decide (Int.gcd x y = 1)
  | _ => false
def spPot (K : PySem.W.Frag) : Sp := fun vs H Q _ => ∃ (s : Addr) (ns : List Int) (k : Nat), vs = [.ref s, .int (k : Nat)] ∧ SqL K H s (ns.map V.int) ∧ k < 64 ∧ ∀ p H', Same H H' → H p = none → PotAt H' p → Q (.ref p) H'
def preD (ds : List PyData) : Prop := ∃ m : Int, ds = [.int m] ∧ 0 < m ∧ m < 2 ^ 200
def postD (ds : List PyData) (r : PyData) : Prop := ∃ m k : Int, ds = [.int m] ∧ r = .int k ∧ 0 ≤ k ∧ k < m
theorem ev_draw {σ : St} {i : Nat} {E : XK} {te : TE} {m : Int} (hi : σ[i]? = some (some (.ref a))) (h : Ev K a G te σ (· = .int m)) (h0 : 0 < m) (h1 : m < 2 ^ 200) :
    Ev K a G (tCall (spP K preD postD) [] E (tCons (tVar i) (tCons te tNil))) σ (IsI fun k => 0 ≤ k ∧ k < m) := by
  refine ev_callP hi (ea_eq h ea_nil) ?_ ?_
  · rintro _ rfl
    exact ⟨m, rfl, h0, h1⟩
  · rintro _ d rfl ⟨m', k, e, rfl, k0, k1⟩
    injection e with e _
    injection e with e
    subst e
    exact ⟨k, rfl, k0, k1⟩
abbrev DfD (P : Program) (w : World) (K : PySem.W.Frag) (mg : Str → Option Value) (base : Heap) (p : Str := "_law_many") : Prop := Df P w K mg base CX0 1 "_law_draw" ["_law_pot_here", p] (spP K preD postD)
end
namespace Odd29
def oddA : List PyData := [.none, .int 0, .int 1, .bool true, .bool false, .str "", .str "A", .str "nineletters", .tuple [], .list [], .dict [], .tuple [.int 1, .int 2], .tuple [.int 2, .int 4], .tuple [.int 3, .int 1], .tuple [.int 1, .int 0], .tuple [.int 1, .int (-2)]]
def oddB : List PyData := [.tuple [.bool true, .int 2], .list [.int 1, .int 2], .tuple [.int 1, .int 2, .int 3], .tuple [.str "1", .int 2], .tuple [.int 0, .int 2], .tuple [.int (-3), .int 6], .int (-5), .str "a", .str "ab", .str "a b", .str "1", .tuple [.str "a"]]
def oddC : List PyData := [.tuple [.int 1, .bool true]]
def oddL : List PyData := oddA ++ oddB ++ oddC
end Odd29
abbrev odd29 : List PyData := Odd29.oddL
def pairD : PyData → Int × Int
  | .int n => (n, 1)
  | .tuple [.int n, .int l] => (n, l)
  | _ => (0, 1)
theorem ratio_pair {n d : Int} (h : d ≠ 0) : 0 < (pairD (ratioD n d)).2 ∧ (pairD (ratioD n d)).1 * d = n * (pairD (ratioD n d)).2 ∧ Int.gcd (pairD (ratioD n d)).1 (pairD (ratioD n d)).2 = 1 := by
  have key : ∀ t l : Int, 0 < l → ∀ r, r = (if l = ((Int.gcd t l : Nat) : Int) then PyData.int (t / ((Int.gcd t l : Nat) : Int)) else .tuple [.int (t / ((Int.gcd t l : Nat) : Int)), .int (l / ((Int.gcd t l : Nat) : Int))]) →
      0 < (pairD r).2 ∧ (pairD r).1 * l = t * (pairD r).2 ∧ Int.gcd (pairD r).1 (pairD r).2 = 1 := by
    intro t l hl r hr
    have gp : 0 < Int.gcd t l := Int.gcd_pos_of_ne_zero_right t (by omega)
    have co := Int.gcd_ediv_gcd_ediv_gcd gp
    have hg : (0 : Int) < ((Int.gcd t l : Nat) : Int) := by omega
    obtain ⟨k, hk⟩ := Int.gcd_dvd_left t l
    obtain ⟨m, hm⟩ := Int.gcd_dvd_right t l
    generalize ((Int.gcd t l : Nat) : Int) = g at *
    have e1 : t / g = k := by
      rw [hk]
      exact Int.mul_ediv_cancel_left _ (by omega)
    have e2 : l / g = m := by
      rw [hm]
      exact Int.mul_ediv_cancel_left _ (by omega)
    have m0 : 0 < m := by
      rw [hm] at hl
      exact Int.lt_of_mul_lt_mul_left (a := g) (by rw [Int.mul_zero]; exact hl) (Int.le_of_lt hg)
    rw [e1, e2] at co
    rw [e1, e2] at hr
    split at hr
    · rename_i e
      subst hr
      have m1 : m = 1 := by
        rw [← e2, e]
        exact Int.ediv_self (by omega)
      subst m1
      refine ⟨Int.one_pos, ?_, co⟩
      show k * l = t * 1
      rw [hm, hk, Int.mul_one, Int.mul_one, Int.mul_comm]
    · subst hr
      refine ⟨m0, ?_, co⟩
      show k * l = t * m
      rw [hm, hk, ← Int.mul_assoc, Int.mul_comm k g]
  by_cases hd : d < 0
  · obtain ⟨a, b, e⟩ := key (-n) (-d) (by omega) (ratioD n d) (by
      unfold ratioD
      simp only [if_pos hd])
    refine ⟨a, ?_, e⟩
    rw [Int.mul_neg, Int.neg_mul] at b
    omega
  · exact key n d (by omega) (ratioD n d) (by
      unfold ratioD
      simp only [if_neg hd])
theorem low_unique {a b c d : Int} (hb : 0 < b) (hd : 0 < d) (h1 : Int.gcd a b = 1) (h2 : Int.gcd c d = 1) (h : a * d = c * b) : a = c ∧ b = d := by
  have bd : b ∣ d := by
    have z : b ∣ a * d := ⟨c, by rw [h, Int.mul_comm]⟩
    have y := Int.dvd_gcd_mul_iff_dvd_mul.mpr z
    rw [Int.gcd_comm, h1] at y
    simpa using y
  have db : d ∣ b := by
    have z : d ∣ c * b := ⟨a, by rw [← h, Int.mul_comm]⟩
    have y := Int.dvd_gcd_mul_iff_dvd_mul.mpr z
    rw [Int.gcd_comm, h2] at y
    simpa using y
  have e : b = d := Int.dvd_antisymm (by omega) (by omega) bd db
  subst e
  exact ⟨Int.eq_of_mul_eq_mul_right (by omega) h, rfl⟩
theorem ratio_rat {n d : Int} (h : d ≠ 0) : isRatD (ratioD n d) = true := by
  have key : ∀ t l : Int, 0 < l → isRatD (if l = ((Int.gcd t l : Nat) : Int) then .int (t / ((Int.gcd t l : Nat) : Int)) else .tuple [.int (t / ((Int.gcd t l : Nat) : Int)), .int (l / ((Int.gcd t l : Nat) : Int))]) = true := by
    intro t l hl
    have gp : 0 < Int.gcd t l := Int.gcd_pos_of_ne_zero_right t (by omega)
    split
    · rfl
    · rename_i hne
      show (decide (2 ≤ l / ((Int.gcd t l : Nat) : Int)) && decide (Int.gcd (t / ((Int.gcd t l : Nat) : Int)) (l / ((Int.gcd t l : Nat) : Int)) = 1)) = true
      rw [Bool.and_eq_true, decide_eq_true_eq, decide_eq_true_eq]
      refine ⟨?_, Int.gcd_ediv_gcd_ediv_gcd gp⟩
      obtain ⟨m, hm⟩ := Int.gcd_dvd_right t l
      have hg : (0 : Int) < ((Int.gcd t l : Nat) : Int) := by omega
      generalize ((Int.gcd t l : Nat) : Int) = g at *
      have e : l / g = m := by
        rw [hm]
        exact Int.mul_ediv_cancel_left _ (by omega)
      rw [e]
      have m0 : 0 < m := by
        rw [hm] at hl
        exact Int.lt_of_mul_lt_mul_left (a := g) (by rw [Int.mul_zero]; exact hl) (Int.le_of_lt hg)
      have m1 : m ≠ 1 := by
        rintro rfl
        rw [Int.mul_one] at hm
        exact hne hm
      omega
  unfold ratioD
  dsimp only
  by_cases hd : d < 0
  · simp only [if_pos hd]
    exact key _ _ (by omega)
  · simp only [if_neg hd]
    exact key _ _ (by omega)

/-! ### numbers and the rationals they tell -/
def valD (d : PyData) : Rat := Rat.divInt (pairD d).1 (pairD d).2
theorem rat_pair {d : PyData} (h : isRatD d = true) : 0 < (pairD d).2 ∧ Int.gcd (pairD d).1 (pairD d).2 = 1 ∧ ((d = .int (pairD d).1 ∧ (pairD d).2 = 1) ∨ (d = .tuple [.int (pairD d).1, .int (pairD d).2] ∧ 2 ≤ (pairD d).2)) := by
  match d, h with
  | .int n, _ => exact ⟨Int.one_pos, Int.gcd_one, .inl ⟨rfl, rfl⟩⟩
  | .tuple [.int n, .int l], h =>
    simp only [isRatD, Bool.and_eq_true, decide_eq_true_eq] at h
    have h1 := h.1
    exact ⟨by show 0 < l; omega, h.2, .inr ⟨rfl, h1⟩⟩
theorem rat_inj {d e : PyData} (hd : isRatD d = true) (he : isRatD e = true) (h : (pairD d).1 * (pairD e).2 = (pairD e).1 * (pairD d).2) : d = e := by
  obtain ⟨a1, a2, a3⟩ := rat_pair hd
  obtain ⟨b1, b2, b3⟩ := rat_pair he
  obtain ⟨c1, c2⟩ := low_unique a1 b1 a2 b2 h
  rcases a3 with ⟨x, x1⟩ | ⟨x, x1⟩ <;> rcases b3 with ⟨y, y1⟩ | ⟨y, y1⟩
  · rw [x, y, c1]
  · omega
  · omega
  · rw [x, y, c1, c2]
theorem val_inj {d e : PyData} (hd : isRatD d = true) (he : isRatD e = true) (h : valD d = valD e) : d = e := by
  obtain ⟨a1, _⟩ := rat_pair hd
  obtain ⟨b1, _⟩ := rat_pair he
  exact rat_inj hd he ((Rat.divInt_eq_divInt_iff (by omega) (by omega)).mp h)
theorem val_ratio {n d : Int} (h : d ≠ 0) : valD (ratioD n d) = Rat.divInt n d := by
  obtain ⟨a1, a2, _⟩ := ratio_pair (n := n) h
  exact (Rat.divInt_eq_divInt_iff (by omega) h).mpr a2
def sumD (d e : PyData) : PyData := ratioD ((pairD d).1 * (pairD e).2 + (pairD e).1 * (pairD d).2) ((pairD d).2 * (pairD e).2)
section
variable {d e : PyData}
theorem low_ne (h : isRatD d = true) : (pairD d).2 ≠ 0 := by
  have := (rat_pair h).1
  omega
theorem low2_ne (h : isRatD d = true) (h' : isRatD e = true) : (pairD d).2 * (pairD e).2 ≠ 0 := Int.mul_ne_zero (low_ne h) (low_ne h')
end
/-! ### sizes of numbers -/
structure Num (s : Nat) (d : PyData) : Prop where
  rat : isRatD d = true
  top : (pairD d).1.natAbs < 2 ^ s
  low : (pairD d).2.natAbs < 2 ^ s
theorem Num.up {s t : Nat} {d : PyData} (h : Num s d) (l : s ≤ t) : Num t d := ⟨h.rat, Nat.lt_of_lt_of_le h.top (Nat.pow_le_pow_right (by decide) l), Nat.lt_of_lt_of_le h.low (Nat.pow_le_pow_right (by decide) l)⟩
theorem ratio_num {n d : Int} {s : Nat} (h : d ≠ 0) (hn : n.natAbs < 2 ^ s) (hd : d.natAbs < 2 ^ s) : Num s (ratioD n d) := by
  have key : ∀ t l : Int, 0 < l → t.natAbs < 2 ^ s → l.natAbs < 2 ^ s → ∀ r, r = (if l = ((Int.gcd t l : Nat) : Int) then PyData.int (t / ((Int.gcd t l : Nat) : Int)) else .tuple [.int (t / ((Int.gcd t l : Nat) : Int)), .int (l / ((Int.gcd t l : Nat) : Int))]) →
      (pairD r).1.natAbs < 2 ^ s ∧ (pairD r).2.natAbs < 2 ^ s := by
    intro t l hl ht hl2 r hr
    have gp : 0 < Int.gcd t l := Int.gcd_pos_of_ne_zero_right t (by omega)
    have hg : (0 : Int) < ((Int.gcd t l : Nat) : Int) := by omega
    generalize ((Int.gcd t l : Nat) : Int) = g at *
    have b1 : (t / g).natAbs ≤ t.natAbs := Int.natAbs_ediv_le_natAbs t g
    have b2 : (l / g).natAbs ≤ l.natAbs := Int.natAbs_ediv_le_natAbs l g
    split at hr
    · subst hr
      exact ⟨Nat.lt_of_le_of_lt b1 ht, Nat.lt_of_le_of_lt (show (1 : Int).natAbs ≤ l.natAbs by show 1 ≤ _; omega) hl2⟩
    · subst hr
      exact ⟨Nat.lt_of_le_of_lt b1 ht, Nat.lt_of_le_of_lt b2 hl2⟩
  suffices q : (pairD (ratioD n d)).1.natAbs < 2 ^ s ∧ (pairD (ratioD n d)).2.natAbs < 2 ^ s from ⟨ratio_rat h, q.1, q.2⟩
  by_cases z : d < 0
  · exact key (-n) (-d) (by omega) (by omega) (by omega) (ratioD n d) (by
      unfold ratioD
      simp only [if_pos z])
  · exact key n d (by omega) hn hd (ratioD n d) (by
      unfold ratioD
      simp only [if_neg z])
theorem mul_lt {a b s t : Nat} (ha : a < 2 ^ s) (hb : b < 2 ^ t) : a * b < 2 ^ (s + t) := by
  rw [Nat.pow_add]
  exact Nat.mul_lt_mul'' ha hb
theorem mul_natAbs_lt {a b : Int} {s t : Nat} (ha : a.natAbs < 2 ^ s) (hb : b.natAbs < 2 ^ t) : (a * b).natAbs < 2 ^ (s + t) := by
  rw [Int.natAbs_mul]
  exact mul_lt ha hb
section
variable {d e : PyData} {s t : Nat}
theorem Num.sum_in (h : Num s d) (h' : Num t e) : (pairD d).2 * (pairD e).2 ≠ 0 ∧ ((pairD d).1 * (pairD e).2 + (pairD e).1 * (pairD d).2).natAbs < 2 ^ (s + t + 1) ∧ ((pairD d).2 * (pairD e).2).natAbs < 2 ^ (s + t + 1) := by
  have a := mul_natAbs_lt h.top h'.low
  have b := mul_natAbs_lt h'.top h.low
  have c := mul_natAbs_lt h.low h'.low
  rw [Nat.add_comm t s] at b
  have e : 2 ^ (s + t + 1) = 2 ^ (s + t) * 2 := Nat.pow_succ ..
  exact ⟨low2_ne h.rat h'.rat, by omega, by omega⟩
theorem Num.sum (h : Num s d) (h' : Num t e) : Num (s + t + 1) (sumD d e) := by
  obtain ⟨a, b, c⟩ := h.sum_in h'
  exact ratio_num a b c
theorem Num.sz (h : Num 1000 d) : Sz 10 1 d := by
  obtain ⟨a, _, b⟩ := rat_pair h.rat
  rcases b with ⟨b, _⟩ | ⟨b, _⟩
  · rw [b]
    exact (sz_int h.top).up (by decide) (by decide)
  · rw [b]
    refine (Sz.tup (n := 0) (k := 0) fun z m => ?_).up (by show 2 * 1 ≤ 10; decide) (by decide)
    simp only [List.mem_cons, List.not_mem_nil, or_false] at m
    rcases m with rfl | rfl
    · exact sz_int h.top
    · exact sz_int h.low
end

/-! ### two numbers, and what is told of them -/
theorem big_mul {i j : Int} {s t : Nat} (ha : i.natAbs < 2 ^ s) (hb : j.natAbs < 2 ^ t) (h : s + t ≤ 3990) : CMulX i j := mulx_ok ha hb (by omega)
section
variable {K : PySem.W.Frag} {a : Addr} {G : Hp} {σ : L2.St} {ta tb : TE} {d e : PyData} {s t : Nat} {E : XK}
end
/-! ### a list of arguments, all numbers or not -/
def okN (s : Nat) (z : PyData) : Prop := Sz 100 5 z ∧ (isRatD z = true → Num s z)
theorem okN.num {s : Nat} {z : PyData} (h : okN s z) (r : isRatD z = true) : Num s z := h.2 r
theorem Num.ok {s : Nat} {z : PyData} (h : Num s z) (l : s ≤ 1000) : okN s z := ⟨(h.up l).sz.up (by decide) (by decide), fun _ => h⟩
section
variable {K : PySem.W.Frag} {a : Addr} {S : List Addr} {σ : St} {G H : Hp} {tr : TA} {C : PyData → Prop} {A1 : List PyData → Prop}
end
end LK
set_option Elab.async false
set_option linter.all false
set_option maxRecDepth 100000
set_option maxHeartbeats 4000000
/-! LK15: lists that a def makes and changes; list(x), tuple(x) -/
namespace LK
open PySem PySem.Spec L2
open PyProof.Rows hiding St
theorem off_upd {S : List Addr} {H : Hp} {L : Addr} {o : HO} (h : L ∈ S) : off S (upd H L o) = off S H := by
  funext b
  unfold off
  by_cases hb : b ∈ S
  · rw [if_pos hb, if_pos hb]
  · rw [if_neg hb, if_neg hb, upd_ne (fun e => hb (by rw [e]; exact h))]
theorem same_off_in {S T : List Addr} {H H' : Hp} {L : Addr} (h : H L = none) (s : Same (off S H) (off T H')) : Same (off S H) (off (L :: T) H') := fun b o e => by
  obtain ⟨n, e1⟩ := off_some (s b o e)
  obtain ⟨_, e0⟩ := off_some e
  refine off_mk (fun m => ?_) e1
  rcases List.mem_cons.mp m with z | z
  · rw [z, h] at e0
    cases e0
  · exact n z
theorem Fr.push {a : Addr} {S : List Addr} {H : Hp} {L : Addr} {o : HO} (f : Fr a S H) (h : H L = some o) : Fr a (L :: S) H := ⟨List.mem_cons_of_mem _ f.mem, f.pot, fun b m => by
  rcases List.mem_cons.mp m with e | m
  · rw [e]
    exact ⟨_, h⟩
  · exact f.all b m⟩
theorem Fr.upd {a : Addr} {S : List Addr} {H : Hp} {L : Addr} {o : HO} (f : Fr a S H) (h : L ≠ a) : Fr a S (upd H L o) := ⟨f.mem, by
  obtain ⟨p, q, e, r⟩ := f.pot
  exact ⟨p, q, by rw [upd_ne h.symm]; exact e, r⟩, fun b m => by
  by_cases e : b = L
  · rw [e]
    exact ⟨_, upd_same⟩
  · obtain ⟨o', z⟩ := f.all b m
    exact ⟨o', by rw [upd_ne e]; exact z⟩⟩
theorem Ext.store {a : Addr} {H0 H : Hp} {L : Addr} {o : HO} (x : Ext a H0 H) (n : H0 L = none) (h : L ≠ a) : Ext a H0 (L2.upd H L o) := ⟨fun b u nb e => by
  rw [upd_ne (ne_of_none e n)]
  exact x.keep b u nb e, fun pt => by
  obtain ⟨p, q, e, r⟩ := x.pot pt
  exact ⟨p, q, by rw [upd_ne h.symm]; exact e, r⟩⟩
theorem Fr.ne {a : Addr} {S : List Addr} {H : Hp} {p : Addr} (f : Fr a S H) (h : H p = none) : p ≠ a := fun e => f.out h (e ▸ f.mem)
section
variable {K : PySem.W.Frag} {H : Hp}
theorem DA.set : ∀ {vs : List V} {ds : List PyData} {v : V} {d : PyData} (k : Nat), DA K H vs ds → D K H v d → DA K H (vs.set k v) (ds.set k d)
  | _, _, _, _, _, .nil, _ => by
    simp
    exact .nil
  | _, _, _, _, 0, .cons _ h, m => .cons m h
  | _, _, _, _, k + 1, .cons h1 h, m => .cons h1 (h.set k m)
theorem DA.snoc {vs : List V} {ds : List PyData} {v : V} {d : PyData} (h : DA K H vs ds) (m : D K H v d) : DA K H (vs ++ [v]) (ds ++ [d]) := h.append (.cons m .nil)
theorem DA.take : ∀ {vs : List V} {ds : List PyData} (k : Nat), DA K H vs ds → DA K H (vs.take k) (ds.take k)
  | _, _, _, .nil => by
    simp
    exact .nil
  | _, _, 0, .cons _ _ => .nil
  | _, _, k + 1, .cons h1 h => .cons h1 (h.take k)
theorem DA.drop : ∀ {vs : List V} {ds : List PyData} (k : Nat), DA K H vs ds → DA K H (vs.drop k) (ds.drop k)
  | _, _, _, .nil => by
    simp
    exact .nil
  | _, _, 0, .cons h1 h => .cons h1 h
  | _, _, k + 1, .cons _ h => h.drop k
end
/-! list(x), tuple(x) -/
section
variable {K : PySem.W.Frag} {a : Addr} {S : List Addr} {σ : L2.St} {G H : Hp} {te : TE} {ds : List PyData}
end
/-! ### the same items in a drawn sequence -/
section
variable {K : PySem.W.Frag} {a : Addr} {S : List Addr} {H : Hp}
end

end LK
set_option Elab.async false
set_option linter.all false
set_option maxRecDepth 100000
set_option maxHeartbeats 4000000
/-! LK16: try with several clauses `except X as e`, all of one name -/
namespace LK
open PySem PySem.Spec L2
open PyProof.Rows hiding St
inductive HdsAs (X : Cx) (nm : Str) : List ExceptHandler → List (Value × (Addr → Value → Option Addr → TS)) → Prop
  | nil : HdsAs X nm [] []
  | cons {cx : Str} {c : Value} {ts : Addr → Value → Option Addr → TS} {b : Stmt} {bs : List Stmt} {p1 p2 : Pos} {hds : List ExceptHandler} {l : List (Value × (Addr → Value → Option Addr → TS))} (named : Names X cx c)
      (suite : ∀ (ax : Addr) (ox : Obj) (cls : Value) (dx : Option Addr) (pn : List (Addr × Obj)), Zc cls dx ox → (∃ vs, ox.data = .fields vs) → PSs (X.suite ax ((ax, ox) :: pn)) (b :: bs) (ts ax cls dx)) (more : HdsAs X nm hds l) :
      HdsAs X nm (.ExceptHandler (some (.Name cx p1)) (some nm) (b :: bs) p2 :: hds) ((c, ts) :: l)
section
variable {X : Cx} {nm : Str} {i : Nat} {body : List Stmt} {hd0 : ExceptHandler} {hds : List ExceptHandler} {l : List (Value × (Addr → Value → Option Addr → TS))} {pos : Pos} {tb : WX → TS} {Wo : WX}
end
end LK
/-! xs.count(True) of bools -/
namespace LK
open PySem PySem.Spec L2
open PyProof.Rows hiding St
end LK
namespace LK
open PySem PySem.Spec L2
open PyProof.Rows hiding St
section
variable {X : Cx} {K : PySem.W.Frag} {o e : Expr} {es : List Expr} {to : TE} {t : TA} {name : Str} {apos cpos : Pos} {T id : String} {r : V → List V → Hp → VK → Prop}
theorem pe_bmK (pa : PlainAttrs T) (slot : Slot T name id) (hty : typeOf (.builtin id) = pure (.type "method_descriptor")) (hm : MtR X id r) (ho : PE X o to) (ha : PA X (e :: es) t) (eK : X.K = K := by rfl)
    (hB : attributeBase o name X.env (eval o X.env) = eval o X.env := by rfl) (hF : ((backTo cpos (starEach (e :: es) X.env)).all (fun x => !x.1) && (backToKw cpos (keywordEach [] X.env)).all (fun x => x.1.isSome) && decide ((e :: es).length + ([] : List Keyword).length + (if ([] : List Keyword).isEmpty then 0 else 1) < 30)) = true := by rfl)
    (hL : (apos.endLine == cpos.line) = true := by rfl) (hS : starEach (e :: es) X.env = (false, eval e X.env) :: starEach es X.env := by rfl) (hP : (backTo cpos (starEach es X.env)).any (·.1) = false := by rfl) :
    PE X (.Call (.Attribute o name apos) (e :: es) [] cpos) (tBM K T r to t) := eK ▸ pe_bm pa slot hty hm ho ha hB hF hL hS hP
end
end LK
set_option Elab.async false
set_option linter.all false
set_option maxRecDepth 100000
set_option maxHeartbeats 4000000
/-! LK17: whatever is walked: for loops and comprehensions over it -/
namespace LK
open PySem PySem.Spec L2
open PyProof.Rows hiding St
def Walks (K : PySem.W.Frag) (a : Addr) (G : Hp) (wi : TI) (σ : L2.St) (n : Nat) (X : Nat → PyData → Prop) : Prop :=
  ∀ S H1, Fr a S H1 → Same G (off S H1) → ∀ R : It → Hp → Prop, (∀ J Gh Yv H2, Ext a H1 H2 → Walk J n Gh Yv → (∀ S' H', Same (off S H2) (off S' H') → Gh H') →
    (∀ S' i H' x H'', Fr a S' H' → Same (off S H2) (off S' H') → i < n → Yv i H' x H'' → Ext a H' H'' ∧ (∀ b o, H' b = some o → H'' b = some o) ∧ ∃ d, D K (off S' H'') x d ∧ X i d) → R J H2) → wi σ H1 R
section
variable {K : PySem.W.Frag} {a : Addr} {S : List Addr} {σ : L2.St} {G H : Hp} {te : TE} {tt : TT} {wi : TI} {n : Nat} {X : Nat → PyData → Prop} {es : List PyData}
theorem off_off {S S' : List Addr} {H H' : Hp} {p : Addr} {o : HO} (s : Same (off S H) (off S' H')) (h : off S H p = some o) : H' p = some o := (off_some (s _ _ h)).2
theorem same_off_keep {S : List Addr} {H H' : Hp} (h : ∀ b o, H b = some o → H' b = some o) : Same (off S H) (off S H') := fun b o e => off_mk (off_some e).1 (h b o (off_some e).2)
/-! ### for -/
/-! ### comprehensions -/
def Picks (n : Nat) (X : Nat → PyData → Prop) (p : Nat → PyData → Bool) (Y : Nat → PyData → PyData → Prop) (os : List (Option PyData)) : Prop :=
  os.length = n ∧ ∀ k o, os[k]? = some o → ∃ d, X k d ∧ ((o = none ∧ p k d = false) ∨ ∃ y, o = some y ∧ p k d = true ∧ Y k d y)
theorem Picks.snoc {n : Nat} {p : Nat → PyData → Bool} {Y : Nat → PyData → PyData → Prop} {os : List (Option PyData)} {o : Option PyData} {d : PyData} (h : Picks n X p Y os) (x : X n d) (z : (o = none ∧ p n d = false) ∨ ∃ y, o = some y ∧ p n d = true ∧ Y n d y) : Picks (n + 1) X p Y (os ++ [o]) := by
  obtain ⟨h1, h2⟩ := h
  refine ⟨by rw [List.length_append, h1]; rfl, fun k o' e => ?_⟩
  rw [List.getElem?_append] at e
  split at e
  · exact h2 k o' e
  · rename_i hk
    have : k = n := by
      by_cases hk2 : k - os.length = 0
      · omega
      · rw [List.getElem?_eq_none (by simp; omega)] at e
        cases e
    subst this
    rw [h1, Nat.sub_self] at e
    simp at e
    subst e
    exact ⟨d, x, z⟩
def Takes1 (K : PySem.W.Frag) (X : Nat → PyData → Prop) (g : TG) (σ0 : L2.St) (Sg : Nat → PyData → Hp → L2.St → Prop) : Prop :=
  ∀ S i x d H, D K (off S H) x d → X i d → ∀ Q : L2.St → Hp → Prop, (∀ σ', Sg i d (off S H) σ' → Q σ' H) → g x σ0 H Q
theorem ev_lcW {g : TG} {vs : List Nat} {p : Nat → PyData → Bool} {Y : Nat → PyData → PyData → Prop} {Sg : Nat → PyData → Hp → L2.St → Prop} (hw : Walks K a G wi σ n X) (hn : n < 100000) (hg : Takes1 K X g (wipe σ vs) Sg)
    (hb : ∀ i d G' σ', i < n → Same G G' → X i d → Sg i d G' σ' → wipe σ' vs = wipe σ vs ∧ EvT a G' tt σ' (· = p i d) ∧ (p i d = true → Ev K a G' te σ' (Y i d))) :
    Ev K a G (tLc wi g tt te vs) σ (fun r => ∃ os, Picks n X p Y os ∧ r = .list (os.filterMap id)) := by
  intro S H1 f s Q q
  refine hw S H1 f s _ fun J Gh Yv H2 x2 w hG hY L hL => ?_
  have f2 := f.ext x2
  have hLS := f2.out hL
  have hLa := f2.ne hL
  have key : ∀ H', Ext a H2 H' → Same (off S H2) (off (L :: S) H') := fun H' x' => same_off_in hL (x'.off f.mem)
  refine lc_it w (fun i H' => Ext a H2 H' ∧ ∃ acc os, H' L = some (.lst acc) ∧ Fr a (L :: S) H' ∧ DA K (off (L :: S) H') acc (os.filterMap id) ∧ Picks i X p Y os) ?_ (fun i H' _ p => hG (L :: S) H' (key H' p.1)) ?_ ?_
  · refine ⟨Ext.new hL, [], [], upd_same, (f2.upd hLa).push upd_same, .nil, rfl, fun k o e => by simp at e⟩
  · rintro i x H' H'' hi ⟨x', acc, os, hacc, fL, md, hp⟩ y
    obtain ⟨xx, kp, d, mx, xd⟩ := hY (L :: S) i H' x H'' fL (key H' x') hi y
    have f3 := fL.ext xx
    have sG : Same G (off (L :: S) H'') := (f.same x2 s).trans ((key H' x').trans (same_off_keep kp))
    refine hg (L :: S) i x d H'' mx xd _ fun σ' hs => ?_
    obtain ⟨hwp, ht, he⟩ := hb i d _ σ' hi sG xd hs
    refine ⟨hwp, ht (L :: S) H'' f3 (Same.refl _) _ fun b H3 x3 eb => ?_⟩
    have f4 := f3.ext x3
    have x13 := (x'.trans xx).trans x3
    have hacc3 : H3 L = some (.lst acc) := x3.keep _ _ hLa (kp _ _ hacc)
    have md3 : DA K (off (L :: S) H3) acc (os.filterMap id) := md.mono ((same_off_keep kp).trans (x3.off f3.mem))
    have hlen : acc.length ≤ i := by
      rw [md.length, ← hp.1]
      exact List.length_filterMap_le _ _
    split
    · rename_i hbt
      refine he (eb.symm.trans hbt) (L :: S) H3 f4 (x3.off f3.mem) _ fun v d' H4 x4 m4 c4 => ?_
      have f5 := f4.ext x4
      have hacc4 : H4 L = some (.lst acc) := x4.keep _ _ hLa hacc3
      refine ⟨acc, hacc4, Nat.lt_of_le_of_lt hlen (Nat.lt_trans (Nat.lt_trans hi hn) (by decide)), (x13.trans x4).store hL hLa, acc ++ [v], os ++ [some d'], upd_same, f5.upd hLa, ?_, hp.snoc xd (.inr ⟨d', rfl, eb.symm.trans hbt, c4⟩)⟩
      rw [off_upd List.mem_cons_self, List.filterMap_append]
      exact (md3.mono (x4.off f4.mem)).snoc m4
    · rename_i hbf
      have hbf' : p i d = false := by
        rw [← eb]
        cases b with
        | true => exact absurd rfl hbf
        | false => rfl
      refine ⟨x13, acc, os ++ [none], hacc3, f4, ?_, hp.snoc xd (.inl ⟨rfl, hbf'⟩)⟩
      rw [List.filterMap_append]
      simpa using md3
  · rintro H' ⟨x', acc, os, hacc, fL, md, hp⟩
    exact q (.ref L) (.list (os.filterMap id)) H' (x2.trans x') (.lst (off_mk hLS hacc) (md.mono same_off_pop)) ⟨os, hp, rfl⟩
theorem takes_pair {i j : Nat} {σ0 : L2.St} (h : ∀ k d, X k d → ∃ d1 d2, d = .tuple [d1, d2]) : Takes1 K X (gTup K 2 (gCons (gName i) (gCons (gName j) gNil))) σ0 (fun k d G' σ' => ∃ x y d1 d2, d = .tuple [d1, d2] ∧ σ' = (σ0.set i (some x)).set j (some y) ∧ D K G' x d1 ∧ D K G' y d2) := fun S k x d H m c Q q => by
  obtain ⟨d1, d2, rfl⟩ := h k d c
  cases m with
  | tup ht mx =>
    obtain ⟨v, w, rfl, m1, m2⟩ := DA.two mx
    exact ⟨_, _, rfl, sqT_same off_le ht, rfl, _, _, rfl, _, _, rfl, rfl, q _ ⟨v, w, d1, d2, rfl, rfl, m1, m2⟩⟩
end
end LK
set_option Elab.async false
set_option linter.all false
set_option maxRecDepth 100000
set_option maxHeartbeats 4000000
/-! LK18: except suites by data: isinstance of the caught exception, its field -/
namespace LK
open PySem PySem.Spec L2
open PyProof.Rows hiding St
section
variable {K : PySem.W.Frag} {a : Addr} {S : List Addr} {σ : L2.St} {G H : Hp} {x C dd : Addr} {i : Nat} {fs : List (Str × V)} {b : Bool}
end
end LK
set_option Elab.async false
set_option linter.all false
set_option maxRecDepth 100000
set_option maxHeartbeats 4000000
/-! LK19: a list that grows; numbers stand apart from it -/
namespace LK
open PySem PySem.Spec L2
open PyProof.Rows hiding St
section
variable {K : PySem.W.Frag} {a : Addr} {S : List Addr} {σ : L2.St} {G H : Hp} {te : TE} {C : PyData → Prop} {Dn : Ends} {L : Addr}
end
end LK
set_option Elab.async false
set_option linter.all false
set_option maxRecDepth 100000
set_option maxHeartbeats 4000000
/-! LK20: a store into a list, is True, all of a list -/
namespace LK
open PySem PySem.Spec L2
open PyProof.Rows hiding St
section
variable {K : PySem.W.Frag} {a : Addr} {S : List Addr} {σ : L2.St} {G H : Hp} {ta te ti : TE} {C : PyData → Prop} {Dn : Ends} {L : Addr} {b c : Bool} {ds : List PyData}
theorem q_par3 {i j l : Nat} {tc : TE} {C1 C2 C3 : PyData → Prop} (ha : Ev K a G ta σ C1) (hb : Ev K a G te σ C2) (hc : Ev K a G tc σ C3) (f : Fr a S H) (s : Same G (off S H))
    (q : ∀ u v w d e g H', Ext a H H' → Fr a S H' → D K (off S H') u d → D K (off S H') v e → D K (off S H') w g → C1 d → C2 e → C3 g → Dn.nx (((σ.set i (some u)).set j (some v)).set l (some w)) H') : tPar3 i j l (tCons ta (tCons te (tCons tc tNil))) Dn σ H :=
  ha S H f s _ fun u d H1 x1 m1 c1 => hb S H1 (f.ext x1) (f.same x1 s) _ fun v e H2 x2 m2 c2 => hc S H2 ((f.ext x1).ext x2) (f.same (x1.trans x2) s) _ fun w g H3 x3 m3 c3 =>
    ⟨u, v, w, rfl, q u v w d e g H3 ((x1.trans x2).trans x3) (((f.ext x1).ext x2).ext x3) (m1.mono ((x2.trans x3).off f.mem)) (m2.mono (x3.off f.mem)) m3 c1 c2 c3⟩
end

/-! ### the law's def, calls by names -/
def spLaw (K : PySem.W.Frag) : Sp := fun vs H Q _ => ∃ (s : Addr) (ns : List Int), vs = [.ref s] ∧ SqL K H s (ns.map V.int) ∧ ns.length ≤ 63 ∧ ∀ H', Q (.bl true) H'
theorem Ext.same_of {p : Addr} {H0 H H' : Hp} (hp : H0 p = none) (s : Same H0 H) (x : Ext p H H') : Same H0 H' := fun b o e => x.keep b o (ne_of_none e hp) (s b o e)
theorem Fr.one {p : Addr} {H : Hp} (h : PotAt H p) : Fr p [p] H := ⟨List.mem_singleton.mpr rfl, h, fun b m => by
  rw [List.mem_singleton.mp m]
  obtain ⟨x, y, e, _⟩ := h
  exact ⟨_, e⟩⟩
section
variable {K : PySem.W.Frag} {a : Addr} {S : List Addr} {σ : L2.St} {G H : Hp} {ta tb : TE} {d e : PyData} {C : PyData → Prop}
end
end LK
set_option Elab.async false
set_option linter.all false
set_option maxRecDepth 100000
set_option maxHeartbeats 1000000
/-! LK21: own instances, the guards known: made, methods, fields, ==, len, str, repr -/
namespace LK
open PySem PySem.Spec L2
open PyProof.Rows hiding St
section
variable {X : Cx} {CX : CXT} {k : Nat} {f C : Addr} {fd : FuncData} {ps : List Str} {sp : Sp} {dvs : List V} {E : St → XK} {x m : Str} {p pos apos : Pos} {e o : Expr} {es : List Expr} {t ta' : TA} {ta : TE}
end
/-! ### own == on the left -/
section
variable {X : Cx} {CX : CXT} {k : Nat} {C : Addr} {ps : List Str} {sp : Sp} {E : XK}
end
end LK
set_option Elab.async false
set_option linter.all false
set_option maxRecDepth 100000
set_option maxHeartbeats 1000000
/-! LK22: sheets: their fields and places -/
namespace LK
open PySem PySem.Spec L2
open PyProof.Rows hiding St
/-! ### names at their places -/
section
variable {K : PySem.W.Frag} {a : Addr} {S : List Addr} {σ : L2.St} {G H : Hp} {ta te : TE} {tr : TA} {C p : Addr} {ns : List Str} {d : PyData} {Cd : PyData → Prop} {A1 : List PyData → Prop}
theorem DA.names (ns : List Str) : DA K H (ns.map V.str) (ns.map PyData.str) := DA.of_strs ns
/-! ### promises of methods -/
end
end LK
set_option Elab.async false
set_option linter.all false
set_option maxRecDepth 100000
set_option maxHeartbeats 1000000
/-! LK23: names and words; what a sheet is made of -/
namespace LK
open PySem PySem.Spec L2
open PyProof.Rows hiding St
abbrev abc : Str := "abcdefghijklmnopqrstuvwxyz"
def isNameD : PyData → Bool
  | .str x => (decide ((1 : Int) ≤ (x.length : Nat)) && decide (((x.length : Nat) : Int) ≤ 8)) && x.cps.toList.all fun c => decide (c ∈ abc.cps.toList)
  | _ => false
theorem isName_str (x : Str) : isNameD (.str x) = ((decide ((1 : Int) ≤ (x.length : Nat)) && decide (((x.length : Nat) : Int) ≤ 8)) && x.cps.toList.all fun c => decide (c ∈ abc.cps.toList)) := rfl
section
variable {K : PySem.W.Frag} {a : Addr} {G : Hp} {S : List Addr} {H : Hp}
end
theorem name_len {n : Str} (h : isNameD (.str n) = true) : 1 ≤ n.length ∧ n.length ≤ 8 := by
  rw [isName_str, Bool.and_eq_true, Bool.and_eq_true] at h
  have h1 := of_decide_eq_true h.1.1
  have h2 := of_decide_eq_true h.1.2
  omega
theorem name_sz {n : Str} (h : isNameD (.str n) = true) : Sz 10 0 (.str n) := by
  have hl := (name_len h).2
  have abc_small : ∀ c ∈ abc.cps.toList, c < 16 ^ 8 := by decide +kernel
  rw [isName_str, Bool.and_eq_true, List.all_eq_true] at h
  refine ⟨by simp [PyData.showable], ?_, ?_, by simp [PyData.depth]⟩
  · simp only [PyData.leavesShort, List.all_eq_true, decide_eq_true_eq]
    intro c m
    exact abc_small c (of_decide_eq_true (h.2 c m))
  · simp only [PyData.bulk]
    exact Nat.le_trans (show n.length ≤ 8 from hl) (by decide)
section
variable {K : PySem.W.Frag} {a : Addr} {S : List Addr} {σ : L2.St} {G H : Hp} {te : TE} {tr : TA} {C p : Addr} {ns : List Str} {es : List PyData}
theorem pi_enumK {X : Cx} {K : PySem.W.Frag} {e : Expr} {ta : TA} {p pos tpos : Pos} {elts : List Expr} {kk : Nat} (eK : X.K = K) (hg : Gl X "enumerate") (hm : X.mg "enumerate" = none) (ha : PA X [e] ta) (hs : starEach [e] X.env = [(false, eval e X.env)] := by rfl) :
    PI X (.Tuple elts kk tpos) (.Call (.Name "enumerate" p) [e] [] pos) (iEnum K ta) := eK ▸ pi_enum hg hm ha hs
end
end LK
set_option Elab.async false
set_option linter.all false
set_option maxRecDepth 100000
set_option maxHeartbeats 1000000
/-! LK24: t[::-1] of a tuple; slices and sums of tuples, slices of lists, by data -/
namespace LK
open PySem PySem.Spec L2
open PyProof.Rows hiding St
section
variable {prog : Program} {w : World} {A : Around} {E : Value → Shared → Prop} {s : Shared}
end
end LK
set_option Elab.async false
set_option linter.all false
set_option maxRecDepth 100000
set_option maxHeartbeats 1000000
/-! LK25: t[::-1], slices and sums of tuples, slices and multiples of lists, by data; words in lists; chains -/
namespace LK
open PySem PySem.Spec L2
open PyProof.Rows hiding St
section
variable {X : Cx} {K : PySem.W.Frag} {e st : Expr} {te ts : TE} {pos p2 : Pos}
end
def cutD {α : Type} (xs : List α) (lo hi : Option Int) : List α := (xs.drop (HT.sIx xs.length 0 lo)).take (HT.sIx xs.length xs.length hi - HT.sIx xs.length 0 lo)
section
variable {K : PySem.W.Frag} {a : Addr} {S : List Addr} {σ : L2.St} {G H : Hp} {ta tb tc te : TE} {tr : TA} {tl th : TO} {lo hi : Option Int} {ds es : List PyData} {i j k : Int} {d : PyData} {ns : List Str} {x : Str}
theorem DA.cut {vs : List V} (h : DA K H vs ds) : DA K H (cutV vs lo hi) (cutD ds lo hi) := by
  unfold cutV cutD
  rw [h.length]
  exact (h.drop _).take _
/-! chains of ints -/
/-! words in lists of words -/
/-! lists of words are equal -/
end
end LK
set_option Elab.async false
set_option linter.all false
set_option maxRecDepth 100000
set_option maxHeartbeats 1000000
/-! LK26: expressions whose value is a sheet; sheets made and compared -/
namespace LK
open PySem PySem.Spec L2
open PyProof.Rows hiding St
section
variable {K : PySem.W.Frag} {a : Addr} {S : List Addr} {σ : L2.St} {G H : Hp} {ta tb te : TE} {tr : TA} {C p : Addr} {ns ms : List Str} {Cn Cm : List Str → Prop} {Dn : Ends} {E : L2.St → XK}
end
end LK
set_option Elab.async false
set_option linter.all false
set_option maxRecDepth 100000
set_option maxHeartbeats 1000000
/-! LK27: levels, settings by data; items of tame data -/
namespace LK
open PySem PySem.Spec L2
open PyProof.Rows hiding St
def isLevelD : PyData → Bool
  | .int i => decide (0 ≤ i) && decide (i ≤ 2)
  | _ => false
def hasD (ns : List Str) : PyData → Bool
  | .str x => decide (x ∈ ns)
  | _ => false
def isSettingD (ns : List Str) : PyData → Bool
  | .tuple [l, t, r, f, w] => isLevelD l && ((match t with | .int i => decide (1 ≤ i) | _ => false) && (isNameD r && (hasD ns f && isRatD w)))
  | _ => false
section
variable {K : PySem.W.Frag} {a : Addr} {S : List Addr} {σ : L2.St} {G H : Hp} {ta tb tc te : TE} {tr : TA} {d : PyData} {C p : Addr} {ns : List Str} {v : V} {x : Str}
theorem pg_tupK {X : Cx} {K : PySem.W.Frag} {es : List Expr} {k n : Nat} {t : TGs} {pos : Pos} (eK : X.K = K) (hc : X.calm = true) (h : PGs X es t) (hn : (assignEach es X.env).length = n := by rfl) (hst : (assignEach es X.env).findIdx? (·.1) = none := by rfl) : PG X (.Tuple es k pos) (gTup K n t) := eK ▸ pg_tup hc h hn hst
end
end LK
set_option Elab.async false
set_option linter.all false
set_option maxRecDepth 100000
set_option maxHeartbeats 1000000
/-! LK28: tuples of four and five unpacked; a field asked of a sheet -/
namespace LK
open PySem PySem.Spec L2
open PyProof.Rows hiding St
section
variable {K : PySem.W.Frag} {a : Addr} {S : List Addr} {σ : L2.St} {G H : Hp} {ta tb tc te : TE} {tr : TA} {d d1 d2 d3 d4 d5 : PyData} {C p : Addr} {ns : List Str} {v : V} {x : Str} {Dn : Ends} {E : L2.St → XK} {E' : XK}
theorem DA.four {vs : List V} (h : DA K H vs [d1, d2, d3, d4]) : ∃ v1 v2 v3 v4, vs = [v1, v2, v3, v4] ∧ D K H v1 d1 ∧ D K H v2 d2 ∧ D K H v3 d3 ∧ D K H v4 d4 := by
  cases h with
  | cons h1 h =>
    cases h with
    | cons h2 h =>
      obtain ⟨v3, v4, rfl, h3, h4⟩ := DA.two h
      exact ⟨_, _, v3, v4, rfl, h1, h2, h3, h4⟩
theorem DA.five {vs : List V} (h : DA K H vs [d1, d2, d3, d4, d5]) : ∃ v1 v2 v3 v4 v5, vs = [v1, v2, v3, v4, v5] ∧ D K H v1 d1 ∧ D K H v2 d2 ∧ D K H v3 d3 ∧ D K H v4 d4 ∧ D K H v5 d5 := by
  cases h with
  | cons h1 h =>
    obtain ⟨v2, v3, v4, v5, rfl, h2, h3, h4, h5⟩ := DA.four h
    exact ⟨_, v2, v3, v4, v5, rfl, h1, h2, h3, h4, h5⟩
end
section
open L2
end
end LK
set_option Elab.async false
set_option linter.all false
set_option maxRecDepth 100000
set_option maxHeartbeats 1000000
/-! LK29: for over drawn data; words drawn -/
namespace LK
open PySem PySem.Spec L2
open PyProof.Rows hiding St
section
variable {K : PySem.W.Frag} {a : Addr} {S : List Addr} {σ : L2.St} {G H : Hp} {ta tb tc te : TE} {tr : TA} {Dn : Ends}
end
section
variable {K : PySem.W.Frag} {a : Addr} {S : List Addr} {σ : L2.St} {G H : Hp} {ta tb tc te : TE} {tr : TA} {Dn : Ends} {ns : List Str}
end
end LK
set_option Elab.async false
set_option linter.all false
set_option maxRecDepth 100000
set_option maxHeartbeats 1000000
/-! LK30: a new list by +, then changed; odd things; rows of settings -/
namespace LK
open PySem PySem.Spec L2
open PyProof.Rows hiding St
theorem Ext.fresh {a : Addr} {H H' : Hp} {L : Addr} (x : Ext a H H') (h : H' L = none) (n : L ≠ a) : H L = none := by
  cases e : H L with
  | none => rfl
  | some o =>
    have := x.keep _ _ n e
    rw [h] at this
    cases this
section
variable {K : PySem.W.Frag} {a : Addr} {S : List Addr} {σ : L2.St} {G H : Hp} {ta tb te : TE} {tr : TA} {Dn : Ends} {ds es : List PyData} {L : Addr}
theorem DA.pop {vs : List V} {o : HO} (m : DA K (off (L :: S) H) vs ds) : DA K (off S (upd H L o)) vs ds := by
  have e : off (L :: S) (upd H L o) = off (L :: S) H := off_upd List.mem_cons_self
  rw [← e] at m
  exact m.mono same_off_pop
end
namespace Odd31
def oddA : List PyData := [.none, .int 0, .int 1, .int 2, .int 3, .int (-1), .bool true, .bool false, .str "", .str "A", .str "a b", .str "nineletter", .str "abcdefgh", .str "1", .str "z", .tuple [], .list [], .dict [], .tuple [.int 1, .int 2]]
def oddB : List PyData := [.tuple [.int 2, .int 4], .tuple [.int 3, .int 1], .tuple [.int 1, .int 0], .tuple [.int 1, .int (-2)], .tuple [.bool true, .int 2], .tuple [.int 1, .int 2, .int 3], .tuple [.int (-7), .int 3], .tuple [.int 0, .int 2], .list [.int 1, .int 2], .list [.str "a"], .tuple [.str "a"]]
def oddC : List PyData := [.int (10 ^ 30)]
theorem sz : ∀ d ∈ oddA ++ oddB ++ oddC, Sz 100 3 d := by
  have h : (oddA ++ oddB ++ oddC).all (szB 100 3) = true := by decide +kernel
  intro d m
  exact Sz.of (List.all_eq_true.mp h d m)
end Odd31
theorem sz_tup {n m k : Nat} {ds : List PyData} (h : ∀ d ∈ ds, Sz n k d) (hm : ds.length * (n + 1) ≤ m) : Sz m (k + 1) (.tuple ds) := (Sz.tup h).up hm (Nat.le_refl _)
theorem sz_list {n m k : Nat} {ds : List PyData} (h : ∀ d ∈ ds, Sz n k d) (hm : ds.length * (n + 1) ≤ m) : Sz m (k + 1) (.list ds) := (Sz.list h).up hm (Nat.le_refl _)
end LK
namespace LK
open PySem PySem.Spec L2
open PyProof.Rows hiding St
theorem DA.three {K : PySem.W.Frag} {H : Hp} {vs : List V} {d1 d2 d3 : PyData} (h : DA K H vs [d1, d2, d3]) : ∃ v1 v2 v3, vs = [v1, v2, v3] ∧ D K H v1 d1 ∧ D K H v2 d2 ∧ D K H v3 d3 := by
  cases h with
  | cons h1 h =>
    obtain ⟨v2, v3, rfl, h2, h3⟩ := DA.two h
    exact ⟨_, v2, v3, rfl, h1, h2, h3⟩
end LK
namespace LK
open PySem PySem.Spec L2
open PyProof.Rows hiding St
section
variable {K : PySem.W.Frag} {a : Addr} {S : List Addr} {σ : L2.St} {G H : Hp} {te : TE} {E : XK}
end
end LK
set_option Elab.async false
set_option linter.all false
set_option maxRecDepth 100000
set_option maxHeartbeats 1000000
/-! LK31: all([right(pot(script, k)) for k in range(..)]); told and settings asked -/
namespace LK
open PySem PySem.Spec L2
open PyProof.Rows hiding St
section
variable {K : PySem.W.Frag} {a : Addr} {S : List Addr} {σ : L2.St} {G H : Hp} {te tl : TE} {E : XK} {ls : List Str} {d : PyData}
end
end LK
set_option Elab.async false
set_option linter.all false
set_option maxRecDepth 100000
set_option maxHeartbeats 1000000
/-! LK32: data compared by >, data in lists, list.index, insert, extend, reverse -/
namespace LK
open PySem PySem.Spec L2
open PyProof.Rows hiding St
section
variable {X : Cx} {K : PySem.W.Frag}
end
section
variable {X : Cx}
end
section
variable {K : PySem.W.Frag} {a : Addr} {S : List Addr} {σ : L2.St} {G H : Hp} {ta tb te ti : TE} {tr : TA} {Dn : Ends} {d e : PyData} {ds es : List PyData} {L : Addr} {C : PyData → Prop}
end
end LK
set_option Elab.async false
set_option linter.all false
set_option maxRecDepth 100000
set_option maxHeartbeats 1000000
/-! LK33: which of two settings is stronger; lists of settings, strongest first -/
namespace LK
open PySem PySem.Spec L2
open PyProof.Rows hiding St
structure Row where
  l : Int
  t : Int
  w : Str
  f : Str
  n : PyData
def Row.d (r : Row) : PyData := .tuple [.int r.l, .int r.t, .str r.w, .str r.f, r.n]
structure Row.Ok (ls : List Str) (r : Row) : Prop where
  l0 : 0 ≤ r.l
  l2 : r.l ≤ 2
  t1 : 1 ≤ r.t
  tb : r.t.natAbs < 2 ^ 250
  w : isNameD (.str r.w) = true
  f : r.f ∈ ls
  fo : isNameD (.str r.f) = true
  n : Num 300 r.n
theorem Row.Ok.setting {ls : List Str} {r : Row} (h : r.Ok ls) : isSettingD ls r.d = true := by
  show (isLevelD (.int r.l) && (decide (1 ≤ r.t) && (isNameD (.str r.w) && (hasD ls (.str r.f) && isRatD r.n)))) = true
  rw [h.w, h.n.rat, show isLevelD (.int r.l) = true from by show (decide (0 ≤ r.l) && decide (r.l ≤ 2)) = true; rw [decide_eq_true h.l0, decide_eq_true h.l2]; rfl, decide_eq_true h.t1, show hasD ls (.str r.f) = true from decide_eq_true h.f]
  rfl
def toks (ls : List Str) (r : Row) : List (Int ⊕ List Nat) := [.inl 1, .inl r.l, .inl 1, .inl r.t, .inl 1, .inr r.w.cps.toList, .inl 1, .inl ((ls.idxOf r.f : Nat) : Int), .inl 0]
/-! ### strongest first -/
end LK
set_option Elab.async false
set_option linter.all false
set_option maxRecDepth 100000
set_option maxHeartbeats 1000000
/-! LK34: enumerate over a tuple -/
namespace LK
open PySem PySem.Spec L2
open PyProof.Rows hiding St
section
open AutoSeq1 (wpAny_loadPart')
open MeetsSeq MeetsSeq2 MeetsSeq3
theorem newB1 {v : Value} {o : Obj} {Hh : Heap → Prop} (B : Begins v o Hh) :
    Meets (Builtin.«enumerate.__new__» ⟨[.type "enumerate", v], []⟩) (fun _ R s => Hh s.heap ∧
      R (.ok (.ret (.ref (s.heap.push o).objs.size))) { s with heap := (s.heap.push o).push { cls := .type "enumerate", data := .fields #[.none, .bool false, .ref s.heap.objs.size, rawInt 0, .none, .none] } }) :=
  .of_wp fun prog w A R s h => by
    obtain ⟨hp, g, d, tk, os⟩ := s
    obtain ⟨h1, h⟩ := h
    have hsub := sub_enumerate
    have begun : ∀ {A' : Around} {E : Value → Shared → Prop} {Q : Value → Shared → Prop}, Q (.ref hp.objs.size) ⟨hp.push o, g, d, tk, os⟩ → wpAny (model prog w) A' (pyIter v) Q E ⟨hp, g, d, tk, os⟩ :=
      fun q => B.iter prog w _ _ ⟨hp, g, d, tk, os⟩ _ h1 q
    wp_walk using begun
    refine wpAny_stack_any fun st => wpAny_pure ?_
    split
    · rename_i c _ _ _ _ _
      cases (c == Value.type "enumerate") <;>
      · wp_walk using begun
        exact ⟨_, rfl, h⟩
    · wp_walk using begun
      exact ⟨_, rfl, h⟩
end
section
variable {prog : Program} {w : World} {A : Around} {E : Value → Shared → Prop} {s : Shared}
theorem call_enum1 {v : Value} {o : Obj} {Hh : Heap → Prop} {Q : Value → Shared → Prop} (B : Begins v o Hh) (h1 : Hh s.heap)
    (q : ∀ h', IsEnum h' (s.heap.objs.size + 1) s.heap.objs.size 0 .none → h'.get? s.heap.objs.size = some o → (∀ b u, s.heap.get? b = some u → h'.get? b = some u) → Q (.ref (s.heap.objs.size + 1)) { s with heap := h' }) :
    wpAny (model prog w) A (call (.type "enumerate") [v]) Q E s := by
  refine callType_new F.called_enumerate (by decide) (F.typeCall_enumerate_1 _) (F.newCall_enumerate_1 _) (fun obj => F.args_object_init_2 obj _) F.entry_enumerate_new (newB1 B) ⟨h1, ?_⟩
  have size : (s.heap.push o).objs.size = s.heap.objs.size + 1 := Heap.size_push ..
  show _ ∧ _
  rw [size]
  have new : IsEnum ((s.heap.push o).push { cls := .type "enumerate", data := .fields #[.none, .bool false, .ref s.heap.objs.size, rawInt 0, .none, .none] }) (s.heap.objs.size + 1) s.heap.objs.size 0 .none := by
    have z := Heap.get?_push_size (s.heap.push o) (o := { cls := .type "enumerate", data := .fields #[.none, .bool false, .ref s.heap.objs.size, rawInt 0, .none, .none] }) rfl
    rw [size] at z
    exact z
  exact ⟨⟨_, new, rfl⟩, q _ new (Heap.get?_push_of_some _ (Heap.get?_push_size _ B.free)) fun b u x => Heap.get?_push_of_some _ (Heap.get?_push_of_some _ x)⟩
end
def IteT (K : PySem.W.Frag) (a : Addr) : It :=
  ⟨fun i H => ∃ (xs : List V) (x : V), SqT K H a xs ∧ xs[i]? = some x, fun i H v H' => ∃ T x, v = .ref T ∧ H T = none ∧ H' = upd H T (.tup [.int (i : Nat), x]) ∧ ∀ xs, SqT K H a xs → xs[i]? = some x, fun i H => ∃ xs : List V, SqT K H a xs ∧ xs.length = i⟩
theorem turn_enumT {P : Program} {w : World} {K : PySem.W.Frag} {elts : List Expr} {kk : Nat} {tpos : Pos} (a e it : Addr) (hta : a ≠ it) (hea : e ≠ a) :
    Turn P w K (.Tuple elts kk tpos) (IteT K a) [e, it] e (fun i h => (∃ old, IsEnum h e it ((i : Nat) : Int) old) ∧ h.IsTupleIter it a i ∧ e ≠ it) where
  mem := by simp
  obj := fun i h st b hb => by
    obtain ⟨⟨old, he⟩, ⟨o, ho, hc, hd⟩, _⟩ := st
    rcases (show b = e ∨ b = it by simpa using hb) with z | z
    · rw [z]
      exact ⟨_, he, fun v q => nomatch q⟩
    · rw [z]
      exact ⟨o, ho, fun v q => by
        rw [hd] at q
        cases q⟩
  keep := fun i h h' st k => by
    obtain ⟨⟨old, he⟩, hi, hne⟩ := st
    exact ⟨⟨old, k e (by simp) _ he⟩, hi.at fun o q => k it (by simp) o q, hne⟩
  item := by
    intro X hP hw hK hc i pins s σ H E I hf st hg
    subst hP hw hK
    obtain ⟨⟨old, he⟩, hit, hne⟩ := st
    obtain ⟨xs, x, hq, hx⟩ := hg
    obtain ⟨its, rv, p, hz⟩ := I.tuple hq
    obtain ⟨u, hu, ru⟩ := rv.get hx
    have below : e < s.heap.objs.size := Heap.lt_size he
    have below2 : it < s.heap.objs.size := by
      obtain ⟨_, q, _⟩ := hit
      exact Heap.lt_size q
    have hlt : i < its.toArray.size := by
      rw [List.size_toArray]
      exact (List.getElem?_eq_some_iff.mp hu).1
    refine wpAny_pyNext_enum_itemC (Draws.tuple (A := X.A.in1) (show X.A.in1.handled = none from I.ok.hd hc) it a hta its.toArray) he ⟨hit, p⟩ hlt hne (by simp [hne, hea]) fun y h' tk hy ho hst hT hsz hk => ?_
    have ey : y = u := by
      have : its.toArray[i]? = some u := by simpa using hu
      exact Option.some.inj (hy.symm.trans this)
    subst ey
    refine ⟨_, rfl, wpAny_letOwnedTupleGo_enum (s := { s with heap := h', toks := tk + 1 }) ho fun h'' he' sb => ?_⟩
    have there : h''.get? s.heap.objs.size = some { cls := .type "tuple", data := .seq #[.int i tk, y] } := (sb.2 _ (Nat.ne_of_gt below)).trans hT
    have new : ObjOk X.prog X.w (upd H s.heap.objs.size (.tup [.int (i : Nat), x])) h'' s.heap.objs.size (.tup [.int (i : Nat), x]) :=
      ⟨by show 2 ≤ sizeLine; decide, [.int i tk, y], .cons ⟨_, rfl⟩ (.cons ru .nil), ⟨_, there, rfl, _, rfl⟩⟩
    have I1 : Inv X pins σ (upd H s.heap.objs.size (.tup [.int (i : Nat), x])) { s with heap := h'', toks := tk + 1 } :=
      I.turnedNew (ch := [e, it]) (fun b ob hb q => (sb.2 b (fun z => hb (by simp [z]))).trans (hk b ob (fun z => hb (by simp [z])) (fun z => hb (by simp [z])) q)) hf (Nat.le_refl _) new
    refine ⟨.ref s.heap.objs.size, _, I1, rfl, ⟨_, x, rfl, I.hok.fresh (Nat.le_refl _), rfl, fun ys hy' => by rw [I.tuple_inj hy' hq]; exact hx⟩, ⟨⟨y, ?_⟩, hst.1.at fun o q => (sb.2 it (Ne.symm hne)).trans q, hne⟩, fun b hb => ?_⟩
    · have e1 : ((i + 1 : Nat) : Int) = (i : Int) + 1 := by omega
      rw [e1]
      exact he'
    · have lb : b < s.heap.objs.size := by
        rcases (show b = e ∨ b = it by simpa using hb) with z | z
        · rw [z]
          exact below
        · rw [z]
          exact below2
      rw [upd_ne (Nat.ne_of_lt lb)]
      exact (hf b hb).1
  done := by
    intro X hP hw hK hc i pins s σ H E I hf st hg
    subst hP hw hK
    obtain ⟨⟨old, he⟩, hit, hne⟩ := st
    obtain ⟨xs, hq, hx⟩ := hg
    obtain ⟨its, rv, p, hz⟩ := I.tuple hq
    obtain ⟨f0, f1, f2, f3, f4, f5⟩ := hf it (by simp)
    have hl : its.toArray.size = i := by
      rw [List.size_toArray, ← rv.length]
      exact hx
    refine wpAny_pyNext_enum_endD (Draws.tuple (A := X.A.in1) (show X.A.in1.handled = none from I.ok.hd hc) it a hta its.toArray) he ⟨hl ▸ hit, p⟩ fun h' eb => ⟨rfl, I.turned (t' := s.toks) (fun b o hb q => eb b o hb q) f0 f1 f3 f4 f5⟩
  self := fun A i s Q E st h => by
    obtain ⟨⟨_, he⟩, _⟩ := st
    exact wpAny_pyIter_enum he h
theorem walk_enumT {K : PySem.W.Frag} {a : Addr} {xs : List V} : Walk (IteT K a) xs.length (fun H => SqT K H a xs) (YPair (fun i => some (.int (i : Nat))) (fun i => xs[i]?)) := by
  refine ⟨fun i _ hi q => ⟨xs, xs[i], q, by simp [hi]⟩, fun _ q => ⟨xs, q, rfl⟩, fun i H v H' _ q y => ?_⟩
  obtain ⟨T, x, h1, h2, h3, h4⟩ := y
  exact ⟨T, .int (i : Nat), x, h1, h2, h3, rfl, h4 xs q⟩
def iEnumA (K : PySem.W.Frag) (ta : TA) : TI := fun σ H R => ta σ H fun vs H1 => ∃ a xs, vs = [.ref a] ∧ ((SqL K H1 a xs ∧ R (Ite K a) H1) ∨ (SqT K H1 a xs ∧ R (IteT K a) H1))
theorem pi_enumA {X : Cx} {K : PySem.W.Frag} {e : Expr} {ta : TA} {p pos tpos : Pos} {elts : List Expr} {kk : Nat} (eK : X.K = K) (hg : Gl X "enumerate") (hm : X.mg "enumerate" = none) (ha : PA X [e] ta) (hs : starEach [e] X.env = [(false, eval e X.env)] := by rfl) :
    PI X (.Tuple elts kk tpos) (.Call (.Name "enumerate" p) [e] [] pos) (iEnumA K ta) := by
  subst eK
  refine ⟨fun pins s σ H R I h => ?_⟩
  refine Call_ (ld_blt I hg hm boot_enumerate (PyProof.Rows.callWith_type1 (thn (ha.run pos pins s σ H _ I h) fun us s1 ⟨vs, H1, I1, r1, q1⟩ => ?_) hs rfl))
  obtain ⟨a, xs, rfl, hq⟩ := q1
  cases r1 with
  | cons r rr =>
    cases rr
    cases r
    have fresh : ∀ b ∈ [s1.heap.objs.size + 1, s1.heap.objs.size], FpOk X pins H1 b := fun b hb => by
      have le : s1.heap.objs.size ≤ b := by
        rcases (show b = s1.heap.objs.size + 1 ∨ b = s1.heap.objs.size by simpa using hb) with z | z
        · omega
        · omega
      exact I1.fpOk le (I1.hok.fresh le)
    rcases hq with ⟨hq, q⟩ | ⟨hq, q⟩
    · obtain ⟨its, rv, p', hz⟩ := I1.list hq
      refine call_enumerate_list p'.isList fun h' he hit hsz hk => wpAny_pyIter_enum he ?_
      have I2 : Inv X pins σ H1 { s1 with heap := h' } := I1.kept (t' := s1.toks) hk
      exact ⟨_, [s1.heap.objs.size + 1, s1.heap.objs.size], _, _, H1, rfl, I2, turn_enum a (s1.heap.objs.size + 1) s1.heap.objs.size, ⟨⟨.none, he⟩, hit, Nat.succ_ne_self _⟩, fresh, q⟩
    · obtain ⟨its, rv, p', hz⟩ := I1.tuple hq
      have la : a < s1.heap.objs.size := by
        obtain ⟨o, ho, _⟩ := p'
        exact Heap.lt_size ho
      refine call_enum1 (begins_tuple a its.toArray) p' fun h' he hit hk => wpAny_pyIter_enum he ?_
      have I2 : Inv X pins σ H1 { s1 with heap := h' } := I1.kept (t' := s1.toks) hk
      refine ⟨_, [s1.heap.objs.size + 1, s1.heap.objs.size], _, _, H1, rfl, I2, turn_enumT a (s1.heap.objs.size + 1) s1.heap.objs.size (Nat.ne_of_lt la) (Nat.ne_of_gt (Nat.lt_succ_of_lt la)), ⟨⟨.none, he⟩, ⟨_, hit, rfl, rfl⟩, Nat.succ_ne_self _⟩, fresh, q⟩
theorem walks_enumA {K : PySem.W.Frag} {a : Addr} {G : Hp} {te : TE} {σ : L2.St} {es : List PyData} (h : Ev K a G te σ (fun d => d = .list es ∨ d = .tuple es)) : Walks K a G (iEnumA K (tCons te tNil)) σ es.length (fun i d => ∃ e, es[i]? = some e ∧ d = .tuple [.int (i : Nat), e]) := fun S H1 f s R r => h S H1 f s _ fun v d H2 x2 m c => by
  have step : ∀ (L : Addr) (xs : List V), DA K (off S H2) xs es → ∀ S' i H' x H'', Fr a S' H' → Same (off S H2) (off S' H') → i < xs.length → YPair (fun i => some (.int (i : Nat))) (fun i => xs[i]?) i H' x H'' →
      Ext a H' H'' ∧ (∀ b o, H' b = some o → H'' b = some o) ∧ ∃ d, D K (off S' H'') x d ∧ ∃ e, es[i]? = some e ∧ d = .tuple [.int (i : Nat), e] := by
    rintro L xs mx S' i H' x _ f' e hi ⟨T, y, z, rfl, hT, rfl, ey, ez⟩
    injection ey with ey
    subst ey
    obtain ⟨d, hd, md⟩ := mx.getV ez
    exact ⟨Ext.new hT, fun _ _ q => same_new hT _ _ q, .tuple [.int (i : Nat), d], D.new_tup hT (f'.out hT) (.cons (.int _) (.cons (md.mono e) .nil)), d, hd, rfl⟩
  rcases c with rfl | rfl
  · cases m with
    | @lst L xs _ hL mx => exact ⟨L, xs, rfl, .inl ⟨SqL.of (off_le _ _ hL), r _ _ _ H2 x2 (mx.length ▸ walk_enum (xs := xs) (K := K) (a := L)) (fun S' H' e => SqL.of (off_off e hL)) fun S' i H' x H'' f' e hi y => step L xs mx S' i H' x H'' f' e (by rw [mx.length]; exact hi) y⟩⟩
  · cases m with
    | @tup L xs _ hL mx => exact ⟨L, xs, rfl, .inr ⟨sqT_same off_le hL, r _ _ _ H2 x2 (mx.length ▸ walk_enumT (xs := xs) (K := K) (a := L)) (fun S' H' e => sqT_same (e.trans off_le) hL) fun S' i H' x H'' f' e hi y => step L xs mx S' i H' x H'' f' e (by rw [mx.length]; exact hi) y⟩⟩
end LK
namespace LK
open PySem PySem.Spec L2
open PyProof.Rows hiding St
section
variable {K : PySem.W.Frag} {a : Addr} {S : List Addr} {σ : L2.St} {G H : Hp} {ta tb te : TE} {d e : PyData} {C p : Addr} {ns : List Str} {x : Str} {E : L2.St → XK} {E' : XK}
end
end LK
set_option Elab.async false
set_option linter.all false
set_option maxRecDepth 100000
set_option maxHeartbeats 1000000
/-! LK35: settings as data: sizes, ==; promises about the order of settings -/
namespace LK
open PySem PySem.Spec L2
open PyProof.Rows hiding St
section
variable {ls : List Str} {r : Row}
theorem Row.Ok.sz (h : r.Ok ls) : Sz 60 2 r.d := by
  have e : ∀ d ∈ [PyData.int r.l, .int r.t, .str r.w, .str r.f, r.n], Sz 10 1 d := fun d m => by
    simp only [List.mem_cons, List.not_mem_nil, or_false] at m
    have h0 := h.l0
    have h2 := h.l2
    rcases m with rfl | rfl | rfl | rfl | rfl
    · exact (sz_int (Nat.lt_trans (show r.l.natAbs < 2 ^ 4 by omega) (Nat.pow_lt_pow_right (by decide) (by decide)))).up (by decide) (by decide)
    · exact (sz_int (Nat.lt_trans h.tb (Nat.pow_lt_pow_right (by decide) (by decide)))).up (by decide) (by decide)
    · exact (name_sz h.w).up (by decide) (by decide)
    · exact (name_sz h.fo).up (by decide) (by decide)
    · exact (h.n.up (by decide)).sz
  exact sz_tup e (by show 5 * 11 ≤ 60; decide)
theorem Row.Ok.tame (h : r.Ok ls) : Tame r.d := h.sz.tame
end
/-! promises -/
section
variable {K : PySem.W.Frag} {a : Addr} {S : List Addr} {σ : L2.St} {G H : Hp} {ta tb te : TE} {C p : Addr} {ns : List Str} {x : Str} {E : L2.St → XK} {E' : XK} {r q : Row}
end
end LK
set_option Elab.async false
set_option linter.all false
set_option maxRecDepth 100000
set_option maxHeartbeats 1000000
/-! LK36: strongest first, walked -/
namespace LK
open PySem PySem.Spec L2
open PyProof.Rows hiding St
section
variable {K : PySem.W.Frag} {a : Addr} {S : List Addr} {σ : L2.St} {G H : Hp} {ta tb te : TE} {Dn : Ends} {L : Addr} {acc : List V}
end
end LK
set_option Elab.async false
set_option linter.all false
set_option maxRecDepth 100000
set_option maxHeartbeats 1000000
/-! LK37: list.index of words; the law's order of settings -/
namespace LK
open PySem PySem.Spec L2
open PyProof.Rows hiding St
section
variable {K : PySem.W.Frag} {a : Addr} {S : List Addr} {σ : L2.St} {G H : Hp} {ta tb te tl : TE} {Dn : Ends} {ns : List Str} {x : Str} {E : XK} {r q : Row} {rs : List Row}
end
end LK
set_option Elab.async false
set_option linter.all false
set_option maxRecDepth 100000
set_option maxHeartbeats 1000000
/-! LK38: drawn settings, with what they hold -/
namespace LK
open PySem PySem.Spec L2
open PyProof.Rows hiding St
section
variable {K : PySem.W.Frag} {a : Addr} {σ : L2.St} {G : Hp} {te : TE} {E : XK}
end
end LK
namespace LK
open PySem PySem.Spec L2
open PyProof.Rows hiding St
end LK
set_option Elab.async false
set_option linter.all false
set_option maxRecDepth 100000
set_option maxHeartbeats 1000000
/-! LK39: l[::-1] of a list -/
namespace LK
open PySem PySem.Spec L2
open PyProof.Rows hiding St
section
variable {X : Cx} {K : PySem.W.Frag} {e st : Expr} {te ts : TE} {pos p2 : Pos}
end
section
variable {K : PySem.W.Frag} {a : Addr} {S : List Addr} {σ : L2.St} {G H : Hp} {tb te : TE} {ds : List PyData}
end
end LK
namespace LK
open PySem PySem.Spec L2
open PyProof.Rows hiding St
section
variable {K : PySem.W.Frag} {a : Addr} {S : List Addr} {σ : L2.St} {G H : Hp} {te : TE} {C p : Addr} {ns : List Str} {rs : List Row} {E : XK}
end
end LK
set_option Elab.async false
set_option linter.all false
set_option maxRecDepth 100000
set_option maxHeartbeats 1000000
/-! LK40: a sheet and data at once; a list that grows by another one -/
namespace LK
open PySem PySem.Spec L2
open PyProof.Rows hiding St
section
variable {K : PySem.W.Frag} {a : Addr} {S : List Addr} {σ : L2.St} {G H : Hp} {ta tb te : TE} {C p : Addr} {Cn : List Str → Prop} {d : PyData} {Dn : Ends} {L : Addr} {C1 : PyData → Prop}
end
end LK
namespace LK
open PySem PySem.Spec L2
open PyProof.Rows hiding St
section
variable {K : PySem.W.Frag} {a : Addr} {S : List Addr} {σ : L2.St} {G H : Hp} {t0 te : TE}
end
end LK
namespace LK
open PySem PySem.Spec L2
open PyProof.Rows hiding St
section
variable {K : PySem.W.Frag} {a : Addr} {S : List Addr} {σ : L2.St} {G H : Hp} {ta tb : TE} {C : Addr} {Cn : List Str → Prop} {d : PyData} {Dn : Ends}
end
end LK
namespace LK
open PySem PySem.Spec L2
theorem bools_eqOk (bs : List Bool) : EqOk (.list (bs.map .bool)) := by
  have k : noDictAll (bs.map .bool) = true ∧ PyData.canLayAll0 (bs.map .bool) = true ∧ PyData.depthAll (bs.map .bool) ≤ 1 := by
    induction bs with
    | nil => exact ⟨rfl, by simp [PyData.canLayAll0], by simp [PyData.depthAll]⟩
    | cons b bs ih =>
      obtain ⟨a, c, e⟩ := ih
      simp only [List.map_cons, noDictAll, noDict, PyData.canLayAll0, PyData.canLay0, PyData.depthAll, PyData.depth, a, c, Bool.and_self, true_and]
      omega
  refine ⟨by simpa [noDict] using k.1, ?_⟩
  unfold SeqAt.shaped
  rw [Bool.and_eq_true]
  refine ⟨by simpa [PyData.canLay0] using k.2.1, decide_eq_true ?_⟩
  simp only [PyData.depth]
  omega
end LK
set_option Elab.async false
set_option linter.all false
set_option maxRecDepth 100000
set_option maxHeartbeats 1000000
/-! LK41: is_stronger and strongest_first by keywords in reverse -/
namespace LK
open PySem PySem.Spec L2
open PyProof.Rows hiding St
section
variable {K : PySem.W.Frag} {a : Addr} {S : List Addr} {σ : L2.St} {G H : Hp} {ta tb te : TE} {C p : Addr} {ns : List Str} {rs : List Row} {E : XK} {r q : Row}
end
end LK
set_option Elab.async false
set_option linter.all false
set_option maxRecDepth 100000
set_option maxHeartbeats 1000000
/-! LK42: int of a bool; of two settings one is stronger -/
namespace LK
open PySem PySem.Spec L2
open PyProof.Rows hiding St
end LK
set_option Elab.async false
set_option linter.all false
set_option maxRecDepth 100000
set_option maxHeartbeats 1000000
/-! LK43: defs and methods called with keywords; a parameter that gathers keywords -/
namespace LK
open PySem PySem.Spec L2 StX
open PyProof.Rows hiding St
abbrev SpK := List V → List V → Hp → VK → XK → Prop
structure FnKw (P : Program) (w : World) (K : PySem.W.Frag) (mg : Str → Option Value) (base : Heap) (CX : CXT) (k : Nat) (f : Addr) (ks : List Str) (sp : SpK) : Prop where
  go : ∀ A : Around, NoG A → Room k A → ∀ (outer : List Env) (s : Shared) (H : Hp), Env0 P w K mg base A outer s H →
    ∀ (us ws : List Value) (vs zs : List V) (Q : VK) (E : XK), Vals vs us → Vals zs ws → sp vs zs H Q E → codeAny (model P w) A (.call (.ref f) ⟨us, ks.zip ws⟩) (CR CX outer P w H s Q E) s
section
variable {P : Program} {w : World} {K : PySem.W.Frag} {mg : Str → Option Value} {base : Heap} {CX : CXT} {k : Nat} {f : Addr} {fd : FuncData} {ps ks : List Str} {sp : Sp}
theorem FnG.kw {g : List Value → List Value → List Value} {gV : List V → List V → List V} (F : FnG P w K mg base CX k f fd ps sp) (hb : KBinds K fd ps ks g gV) : FnKw P w K mg base CX k f ks fun vs zs H Q E => sp (gV vs zs) H Q E :=
  ⟨fun A hg hr outer s H e0 us ws vs zs Q E r rz q => by
    have r2 := hb.rel r rz
    have hl : (g us ws).length = ps.length := by
      rw [← r2.length]
      exact F.size _ _ _ _ q
    have inK : K.In s.heap := e0.mod.kin.keeps fun b o e => (e0.bs b o e).1
    exact F.go A hg hr outer s H e0 ⟨us, ks.zip ws⟩ (g us ws) (gV vs zs) Q E (hb.to s us ws inK hl) r2 q⟩
end
/-! ### the dict of the keywords is laid -/
section
variable {P : Program} {w : World} {A : Around} {E : Value → Shared → Prop} {D : Addr}
end
end LK
set_option Elab.async false
set_option linter.all false
set_option maxRecDepth 100000
set_option maxHeartbeats 1000000
/-! LK44: def f(a, .., **d): the keywords' dict, locked -/
namespace LK
open PySem PySem.Spec L2 StX
open PyProof.Rows hiding St
section
variable {P : Program} {w : World} {K : PySem.W.Frag} {mg : Str → Option Value} {base : Heap} {A : Around} {outer : List Env} {s : Shared} {H : Hp}
end
section
variable {CX : CXT} {P : Program} {w : World} {K : PySem.W.Frag} {mg : Str → Option Value} {base : Heap} {k : Nat} {f : Addr} {name qual : Str} {params : Arguments} {body : List Stmt} {scope : Scope} {dV kV doc pm cdv ct oc : Value} {an od : Option Addr}
  {osl : Array (Option Value)} {N ps ks : List Str} {sp : Sp} {pd : Str}
end
/-! ### methods called with keywords alone -/
section
variable {X : Cx} {CX : CXT} {k : Nat} {f C : Addr} {ks : List Str} {sp : SpK} {E : St → XK} {m : Str} {pos apos : Pos} {o : Expr} {kws : List Keyword} {tk : TA} {ta : TE}
end
end LK
set_option Elab.async false
set_option linter.all false
set_option maxRecDepth 100000
set_option maxHeartbeats 1000000
/-! LK45: a locked dict of keywords: walked, asked; coefficients by name -/
namespace LK
open PySem PySem.Spec L2
open PyProof.Rows hiding St
section
variable {K : PySem.W.Frag} {a : Addr} {S : List Addr} {σ : L2.St} {G H : Hp} {ta te : TE} {C p d : Addr} {o : Obj} {kvs : List (Key × V)} {es : List PyData} {ns ks : List Str} {x : Str} {zs : List V}
end
/-! the coefficients judged -/
section
variable {K : PySem.W.Frag} {a : Addr} {S : List Addr} {σ : L2.St} {G H : Hp} {tk : TA} {tr : TA} {C CU CN p : Addr} {ns ks : List Str} {E : L2.St → XK} {Q : VK} {es : List PyData}
end
end LK
set_option Elab.async false
set_option linter.all false
set_option maxRecDepth 100000
set_option maxHeartbeats 1000000
/-! LK46: methods that gather keywords; equations by name -/
namespace LK
open PySem PySem.Spec L2 StX
open PyProof.Rows hiding St
section
variable {P : Program} {w : World} {K : PySem.W.Frag} {mg : Str → Option Value} {base : Heap}
end
section
variable {K : PySem.W.Frag} {a : Addr} {σ : L2.St} {G : Hp} {te : TE} {C p : Addr} {ns : List Str} {d : PyData} {Cd : PyData → Prop} {E : L2.St → XK}
end
/-! an equation of a sheet with n fields -/
/-! the ways of calling -/
end LK
namespace LK
open PySem PySem.Spec L2
theorem odd29_sz {d : PyData} (h : d ∈ odd29) : Sz 100 3 d := by
  have k : (odd29.all fun d => szB 20 2 d) = true := by decide +kernel
  exact (Sz.of (List.all_eq_true.mp k d h)).up (by decide) (by decide)
end LK
set_option Elab.async false
set_option linter.all false
set_option maxRecDepth 100000
set_option maxHeartbeats 1000000
/-! LK47: calls over a sheet with two ways out; places of names -/
namespace LK
open PySem PySem.Spec L2
open PyProof.Rows hiding St
section
variable {K : PySem.W.Frag} {a : Addr} {S : List Addr} {σ : L2.St} {G H : Hp} {te : TE} {tr : TA} {C p : Addr} {ns : List Str} {ds : List PyData}
end
end LK
namespace LK
open PySem PySem.Spec L2
open PyProof.Rows hiding St
end LK
namespace LK
open PySem PySem.Spec L2
open PyProof.Rows hiding St
section
variable {K : PySem.W.Frag} {a : Addr} {S : List Addr} {σ : L2.St} {G H : Hp} {te tb : TE} {ds : List PyData}
end
end LK
set_option Elab.async false
set_option linter.all false
set_option maxRecDepth 100000
set_option maxHeartbeats 4000000
/-! LK48: decimal texts, by their signs (from k14) -/
namespace LK
open PySem PySem.Spec L2
open PyProof.Rows hiding St
open TL (tl numL)
open NumText (digitsVal AllDigits)
/-! ### decimal texts, by their signs -/
def allDig (l : List Nat) : Bool := l.all fun c => decide (48 ≤ c) && decide (c ≤ 57)
def canon (l : List Nat) : Bool := (l == [48]) || !(l.head? == some 48)
def decB (l : List Nat) : Bool := (!(l == []) && allDig l) && canon l
/-! ### signed -/
def restL (l : List Nat) : List Nat := if l.take 1 = [45] then l.drop 1 else l
def toI (l : List Nat) : Int := if l.take 1 = [45] then -((digitsVal (l.drop 1) : Nat) : Int) else (digitsVal l : Nat)
def parseL (l : List Nat) : Option Int := if (decB (restL l) && !(l == [45, 48])) = true then some (toI l) else none
/-! ### whole texts -/
abbrev slash : Str := "/"
def parseW : List Str → Option PyData
  | [a] => (parseL (tl a)).map .int
  | [a, b] => (parseL (tl a)).bind fun t => if (decB (tl b) && isRatD (.tuple [.int t, .int ((digitsVal (tl b) : Nat) : Int)])) = true then some (.tuple [.int t, .int ((digitsVal (tl b) : Nat) : Int)]) else none
  | _ => none
def parseN (x : Str) : Option PyData := parseW (Txt.split x slash)
end LK
set_option Elab.async false
set_option linter.all false
set_option maxRecDepth 100000
set_option maxHeartbeats 4000000
set_option exponentiation.threshold 2000
/-! LK49: decimal words, numbers' texts: promises, bounds (from k14) -/
namespace LK
open PySem PySem.Spec L2
open PyProof.Rows hiding St
open TL (tl numL)
open NumText (digitsVal AllDigits)
section
variable {K : PySem.W.Frag} {a : Addr} {G : Hp}
end
section
variable {K : PySem.W.Frag} {a : Addr} {G : Hp}
end
end LK
set_option Elab.async false
set_option linter.all false
set_option maxRecDepth 100000
set_option maxHeartbeats 1000000
/-! LK50: == of lists of flat values; f-strings of texts and ints; one way out over a sheet; x = text.split(..) that will change -/
namespace LK
open PySem PySem.Spec L2
open PyProof.Rows hiding St
section
variable {X : Cx}
end
section
variable {K : PySem.W.Frag} {a : Addr} {S : List Addr} {σ : L2.St} {G H : Hp} {ta tb te : TE} {tr : TA} {ds : List PyData} {Dn : Ends} {x y : Str}
/-! ### f-strings -/
/-! ### words that will change -/
end
end LK
set_option Elab.async false
set_option linter.all false
set_option maxRecDepth 100000
set_option maxHeartbeats 1000000
/-! LK51: texts of words; a number's text read in two ways -/
namespace LK
open PySem PySem.Spec L2
open PyProof.Rows hiding St
open TL (tl numL)
open NumText (digitsVal AllDigits)
/-! ### a whole word that begins with its sign -/
end LK
set_option Elab.async false
set_option linter.all false
set_option maxRecDepth 100000
set_option maxHeartbeats 1000000
/-! LK52: a setting's text, written and read in two ways -/
namespace LK
open PySem PySem.Spec L2
open PyProof.Rows hiding St
open TL (tl numL)
open NumText (digitsVal AllDigits)
def countD (x : Str) : PyData := match parseN x with
  | some (.int i) => if 0 ≤ i then .int i else .none
  | _ => .none
def valueD (x : Str) : PyData := (parseN x).getD .none
def five (a b c d e : Str) : PyData := .tuple [countD a, countD b, .str c, .str d, valueD e]
/-! ### written -/
end LK
set_option Elab.async false
set_option linter.all false
set_option maxRecDepth 100000
set_option maxHeartbeats 1000000
set_option exponentiation.threshold 2000
/-! LK53: texts of settings: sizes, promises -/
namespace LK
open PySem PySem.Spec L2
open PyProof.Rows hiding St
open TL (tl numL)
open NumText (digitsVal AllDigits)
/-! promises -/
end LK
set_option Elab.async false
set_option linter.all false
set_option maxRecDepth 100000
set_option maxHeartbeats 1000000
/-! LK54: texts cut; a number's text in pieces -/
namespace LK
open PySem PySem.Spec L2
open PyProof.Rows hiding St
open TL (tl numL)
open NumText (digitsVal AllDigits)
end LK
set_option Elab.async false
set_option linter.all false
set_option maxRecDepth 100000
set_option maxHeartbeats 1000000
/-! LK55: what a call over a setting's text is told; words exchanged; odd settings -/
namespace LK
open PySem PySem.Spec L2
open PyProof.Rows hiding St
open TL (tl numL)
open NumText (digitsVal AllDigits)
/-! ### two items exchanged -/
section
variable {K : PySem.W.Frag} {a : Addr} {S : List Addr} {σ : L2.St} {G H : Hp} {Dn : Ends} {L : Addr}
end
section
variable {a : Addr} {S : List Addr} {G H : Hp}
end
/-! ### words put together again -/
end LK
namespace LK
open PySem PySem.Spec L2
end LK
set_option Elab.async false
set_option linter.all false
set_option maxRecDepth 100000
set_option maxHeartbeats 1000000
/-! LK56: a promise over the pot and a sheet; odd settings judged -/
namespace LK
open PySem PySem.Spec L2
open PyProof.Rows hiding St
open TL (tl numL)
open NumText (digitsVal AllDigits)
section
variable {K : PySem.W.Frag} {a : Addr} {S : List Addr} {σ : L2.St} {G H : Hp} {ta tb te : TE} {tr : TA} {C p : Addr} {ns : List Str} {d : PyData} {Cd : PyData → Prop} {A1 : List PyData → Prop} {Cn : List Str → Prop} {Dn : Ends}
end
/-! a good setting -/
end LK
set_option Elab.async false
set_option linter.all false
set_option maxRecDepth 100000
set_option maxHeartbeats 1000000
/-! LK57: for k in range(..): pot = pot(script, k); .. -/
namespace LK
open PySem PySem.Spec L2
open PyProof.Rows hiding St
end LK
set_option Elab.async false
set_option linter.all false
set_option maxRecDepth 100000
set_option maxHeartbeats 1000000
/-! LK58: sorted(xs, key = f), f a def whose promise is an int of each item -/
namespace LK
open PySem PySem.Spec L2
open PyProof.Rows hiding St
open PySem.W
section
variable {prog : Program} {w : World} {A : Around} {a kS : Addr} {vs : List Value} {kz : List Int} {E : Value → Shared → Prop}
end
end LK
set_option Elab.async false
set_option linter.all false
set_option maxRecDepth 100000
set_option maxHeartbeats 1000000
/-! LK59: sorted(xs, key = f) as a rule -/
namespace LK
open PySem PySem.Spec L2
open PyProof.Rows hiding St
end LK
set_option Elab.async false
set_option linter.all false
set_option maxRecDepth 100000
set_option maxHeartbeats 2000000
/-! LK60: zip(.., strict=True): its next, its making -/
namespace LK
open PySem PySem.Spec
section
variable {prog : Program} {w : World} {A : Around} {E : Value → Shared → Prop} {s : Shared} {z TI TO i1 i2 : Addr} {fp1 fp2 : List Addr} {n1 n2 n i : Nat} {P1 P2 P : Nat → Value → Prop} {St1 St2 Stt : Nat → Heap → Prop} {a1 a2 : Value} {it : Addr} {fp : List Addr}
end
end LK
set_option Elab.async false
set_option linter.all false
set_option maxRecDepth 100000
set_option maxHeartbeats 2000000
/-! LK61: zip(x, y, strict=True) is made -/
namespace LK
open PySem PySem.Spec
section
variable {prog : Program} {w : World} {A : Around} {E : Value → Shared → Prop} {s : Shared}
end
end LK
set_option Elab.async false
set_option linter.all false
set_option maxRecDepth 100000
set_option maxHeartbeats 2000000
/-! LK62: zip(x, y) and zip(x, y, strict=True) walked, x and y lists or tuples of one length -/
namespace LK
open PySem PySem.Spec L2
open PyProof.Rows hiding St
/-! ### a list or a tuple -/
section
variable {X : Cx} {pins : List (Addr × Obj)} {σ : L2.St} {H : Hp} {s : Shared} {t : Bool} {a : Addr} {xs ys : List V}
end
/-! ### the walk -/
end LK
set_option Elab.async false
set_option linter.all false
set_option maxRecDepth 100000
set_option maxHeartbeats 1000000
/-! LK63: zips by data; comprehensions over them -/
namespace LK
open PySem PySem.Spec L2
open PyProof.Rows hiding St
section
variable {K : PySem.W.Frag} {a : Addr} {S : List Addr} {σ : L2.St} {G H : Hp} {te ta tb : TE} {tt : TT} {tr : TA} {wi : TI} {n : Nat} {es fs : List PyData}
abbrev SeqD (es : List PyData) (d : PyData) : Prop := d = .list es ∨ d = .tuple es
/-! ### [e for x, y in zip] -/
end
end LK
set_option Elab.async false
set_option linter.all false
set_option maxRecDepth 100000
set_option maxHeartbeats 1000000
/-! LK64: tuple * int, sum of ints, an int in a list of ints; rows of ints as data -/
namespace LK
open PySem PySem.Spec L2
open PyProof.Rows hiding St
section
variable {K : PySem.W.Frag} {a : Addr} {S : List Addr} {σ : L2.St} {G H : Hp} {ta tb te : TE} {ds : List PyData} {i j k : Int} {ns : List Int} {C1 C2 C : PyData → Prop}
end
/-! ### rows of ints as data -/
open LA (pivL primL signD clr foundL restL gcdL smallB Prim Clears Apart)
open LA (at')
end LK
set_option Elab.async false
set_option linter.all false
set_option maxRecDepth 100000
set_option maxHeartbeats 1000000
set_option exponentiation.threshold 20000
/-! LK65: promises about rows; spaces -/
namespace LK
open PySem PySem.Spec L2
open PyProof.Rows hiding St
open LA (at' pivL primL signD clr foundL redL gcdL smallB Prim Clears Apart Red NF NRok spanL Vec)
/-! ### sizes -/
/-! ### promises -/
section
variable {K : PySem.W.Frag} {a : Addr} {S : List Addr} {σ : L2.St} {G H : Hp} {ta tb te : TE} {r l : List Int} {E : XK} {p : Nat} {i : Nat}
end
/-! ### spaces -/
section
variable {K : PySem.W.Frag} {a : Addr} {S : List Addr} {σ : L2.St} {G H : Hp} {ta tb te : TE} {tr : TA} {C CS p q : Addr} {ns : List Str} {F : List (List Int)} {d : PyData} {Cd : PyData → Prop} {A1 : List PyData → Prop} {E : L2.St → XK} {E' : XK}
end
end LK
set_option Elab.async false
set_option linter.all false
set_option maxRecDepth 100000
set_option maxHeartbeats 1000000
/-! LK66: sum by name; defs with defaults that let nothing out -/
namespace LK
open PySem PySem.Spec L2
open PyProof.Rows hiding St
end LK
set_option Elab.async false
set_option linter.all false
set_option maxRecDepth 100000
set_option maxHeartbeats 1000000
/-! LK67: rows sorted by their pivots -/
namespace LK
open PySem PySem.Spec L2
open PyProof.Rows hiding St
open LA (pivL)
section
variable {K : PySem.W.Frag} {a : Addr} {S : List Addr} {σ : L2.St} {G H : Hp} {te : TE} {F : List (List Int)} {q : Addr}
end
/-! ### comprehensions over lists of one kind -/
theorem picksA {α : Type} {p : α → Bool} {g : α → PyData} : ∀ {xs : List α} {n : Nat} {X : Nat → PyData → Prop} {os : List (Option PyData)}, n = xs.length →
    Picks n X (fun i _ => match xs[i]? with | some x => p x | none => false) (fun i _ y => ∃ x, xs[i]? = some x ∧ y = g x) os → os.filterMap id = (xs.filter p).map g
  | [], n, X, os, e, ⟨h1, _⟩ => by
    subst e
    have : os = [] := List.length_eq_zero_iff.mp h1
    rw [this]
    rfl
  | x :: xs, n, X, [], e, ⟨h1, _⟩ => by
    subst e
    cases h1
  | x :: xs, n, X, o :: os, e, ⟨h1, h2⟩ => by
    subst e
    have ih := picksA (p := p) (g := g) (xs := xs) (n := xs.length) (X := fun i d => X (i + 1) d) (os := os) rfl ⟨by simpa using h1, fun k o' ho' => by
      obtain ⟨d, xd, z⟩ := h2 (k + 1) o' (by simpa using ho')
      exact ⟨d, xd, by simpa using z⟩⟩
    obtain ⟨d, xd, z⟩ := h2 0 o rfl
    rcases z with ⟨rfl, z⟩ | ⟨y, rfl, z, x', hx, rfl⟩
    · have z' : p x = false := z
      rw [List.filter_cons_of_neg (by rw [z']; decide)]
      exact ih
    · have z' : p x = true := z
      injection hx with hx
      subst hx
      rw [List.filter_cons_of_pos z', List.map_cons, ← ih]
      rfl
section
variable {α β : Type} {K : PySem.W.Frag} {a : Addr} {S : List Addr} {σ : L2.St} {G H : Hp} {te t0 ta tb : TE} {tt : TT} {wi : TI} {xs : List α} {ys : List β}
theorem ev_lcPD {D1 : α → PyData} {D2 : α → PyData} {p : α → Bool} {g : α → PyData} {i j n : Nat} (hw : Walks K a G wi σ n (fun k d => ∃ x, xs[k]? = some x ∧ d = .tuple [D1 x, D2 x])) (hn : n = xs.length) (hs : n < 100000)
    (hj : ∀ x y, wipe (((wipe σ [i, j]).set i (some x)).set j (some y)) [i, j] = wipe σ [i, j])
    (hb : ∀ d x y G', d ∈ xs → Same G G' → D K G' x (D1 d) → D K G' y (D2 d) → EvT a G' tt (((wipe σ [i, j]).set i (some x)).set j (some y)) (· = p d) ∧ (p d = true → Ev K a G' te (((wipe σ [i, j]).set i (some x)).set j (some y)) (· = g d))) :
    Ev K a G (tLc wi (gTup K 2 (gCons (gName i) (gCons (gName j) gNil))) tt te [i, j]) σ (· = .list ((xs.filter p).map g)) := by
  refine (ev_lcW (p := fun i _ => match xs[i]? with | some x => p x | none => false) (Y := fun i _ y => ∃ x, xs[i]? = some x ∧ y = g x) hw hs (takes_pair fun k d ⟨x, _, e⟩ => ⟨_, _, e⟩) ?_).imp ?_
  · rintro k d G' _ hi s ⟨z, hz, e⟩ ⟨x, y, d1, d2, e2, rfl, m1, m2⟩
    rw [e] at e2
    injection e2 with e2
    injection e2 with q1 e2
    injection e2 with q2 _
    subst q1 q2
    obtain ⟨b1, b2⟩ := hb z x y G' (List.mem_of_getElem? hz) s m1 m2
    rw [hz]
    exact ⟨hj x y, b1, fun q => (b2 q).imp fun _ z => ⟨_, rfl, z⟩⟩
  · rintro r ⟨os, hp, rfl⟩
    rw [picksA hn hp]
end
end LK
set_option Elab.async false
set_option linter.all false
set_option maxRecDepth 100000
set_option maxHeartbeats 1000000
set_option exponentiation.threshold 20000
/-! LK68: the methods of spaces: promises -/
namespace LK
open PySem PySem.Spec L2
open PyProof.Rows hiding St
open LA (at' pivL primL signD clr foundL gcdL smallB Prim Clears Apart Red NF NRok spanL Vec)
/-! ### promises -/
section
variable (P : Program) (w : World) (K : PySem.W.Frag) (mg : Str → Option Value) (base : Heap) (C CS : Addr)
end
section
variable {K : PySem.W.Frag} {a : Addr} {S : List Addr} {σ : L2.St} {G H : Hp} {ta tb te : TE} {tr : TA} {C CS p q : Addr} {ns : List Str} {F : List (List Int)} {r : List Int} {d : PyData} {es : List PyData} {Cd : PyData → Prop} {A1 : List PyData → Prop} {E : L2.St → XK} {E' : XK} {w i : Nat}
variable {pre : List Str → List (List Int) → List PyData → Prop} {post : List Str → List (List Int) → List PyData → Option (List PyData) → Prop}
end
end LK
set_option Elab.async false
set_option linter.all false
set_option maxRecDepth 100000
set_option maxHeartbeats 1000000
set_option exponentiation.threshold 20000
/-! LK69: new lists as answers -/
namespace LK
open PySem PySem.Spec L2
open PyProof.Rows hiding St
section
variable {K : PySem.W.Frag} {a : Addr} {S : List Addr} {σ : L2.St} {G H : Hp} {ta tb te : TE} {tr : TA} {C CS p q : Addr} {ns : List Str} {F : List (List Int)} {r : List Int} {d : PyData} {es : List PyData} {Cd : PyData → Prop} {A1 : List PyData → Prop} {E : L2.St → XK} {E' : XK} {w i : Nat}
variable {pre : List Str → List (List Int) → List PyData → Prop} {post : List Str → List (List Int) → List PyData → Option (List PyData) → Prop}
end
end LK
set_option Elab.async false
set_option linter.all false
set_option maxRecDepth 100000
set_option maxHeartbeats 1000000
set_option exponentiation.threshold 20000
/-! LK70: the laws' elimination: rational numbers as data, promises -/
namespace LK
open PySem PySem.Spec L2
open PyProof.Rows hiding St
open LA (at' pivL row spanL NF Red vat qof qsub qdiv pivQ qstep qrun QSt someQ Elim SmallQ smallB qred1 qrest qacc coef qsum)
def ratD (q : Rat) : PyData := ratioD q.num (q.den : Nat)
theorem den_ne (q : Rat) : ((q.den : Nat) : Int) ≠ 0 := by
  have := q.den_nz
  omega
theorem ratD_rat (q : Rat) : isRatD (ratD q) = true := ratio_rat (den_ne q)
theorem val_ratD (q : Rat) : valD (ratD q) = q := by
  unfold ratD
  rw [val_ratio (den_ne q)]
  exact Rat.num_divInt_den q
theorem ratD_val {d : PyData} (h : isRatD d = true) : d = ratD (valD d) := val_inj h (ratD_rat _) (val_ratD _).symm
theorem ratD_of {d : PyData} {q : Rat} (h : isRatD d = true) (e : valD d = q) : d = ratD q := by
  rw [← e]
  exact ratD_val h
theorem int_ratD (k : Int) : PyData.int k = ratD (k : Rat) := ratD_of rfl (by
  show Rat.divInt k 1 = _
  rw [Rat.divInt_eq_div]
  have e : ((1 : Int) : Rat) = 1 := rfl
  rw [e]
  grind)
/-! ### rows of numbers -/
def qrowD (v : List Rat) : PyData := .list (v.map ratD)
theorem ints_rats (r : List Int) : r.map PyData.int = (qof r).map ratD := by
  unfold LA.qof
  rw [List.map_map]
  exact List.map_congr_left fun e _ => int_ratD e
theorem row_qrow (r : List Int) : PyData.list (r.map .int) = qrowD (qof r) := by
  unfold qrowD
  rw [ints_rats]
/-! ### promises -/
section
variable (P : Program) (w : World) (K : PySem.W.Frag) (mg : Str → Option Value) (base : Heap)
end
section
variable {K : PySem.W.Frag} {a : Addr} {S : List Addr} {σ : L2.St} {G H : Hp} {ta tb tc te : TE} {v l u : List Rat} {f g : Rat} {s t w i p : Nat} {E : XK} {r : List Int} {rs : List (List Int)} {fs : List (List Rat)} {d : PyData}
variable {α : Type} {xs : List α} {wi : TI}
theorem walks_enumD {Dt : α → PyData} (h : Ev K a G te σ (SeqD (xs.map Dt))) : Walks K a G (iEnumA K (tCons te tNil)) σ xs.length (fun k d => ∃ q : α × Nat, xs.zipIdx[k]? = some q ∧ d = .tuple [.int (q.2 : Nat), Dt q.1]) := fun S H1 f s R r => by
  have := walks_enumA h S H1 f s R
  rw [List.length_map] at this
  refine this fun J Gh Yv H2 x2 w hG hY => r J Gh Yv H2 x2 w hG fun S' i H' x H'' fr sm hi y => ?_
  obtain ⟨x', kp, d, md, e, he, rfl⟩ := hY S' i H' x H'' fr sm hi y
  rw [List.getElem?_map, List.getElem?_eq_getElem hi] at he
  injection he with he
  subst he
  exact ⟨x', kp, _, md, (xs[i], i), by rw [List.getElem?_zipIdx, List.getElem?_eq_getElem hi]; simp, rfl⟩
end
end LK
set_option Elab.async false
set_option linter.all false
set_option maxRecDepth 100000
set_option maxHeartbeats 1000000
set_option exponentiation.threshold 20000
/-! LK71: drawn rows of ints -/
namespace LK
open PySem PySem.Spec L2
open PyProof.Rows hiding St
open LA (at')
section
variable {K : PySem.W.Frag} {a : Addr} {S : List Addr} {σ : L2.St} {G H : Hp} {ta tb tc te t0 : TE} {tt : TT} {tr : TA} {g : TG} {own : List Nat} {C C0 C1 C2 Cd : PyData → Prop} {A1 : List PyData → Prop} {E : XK} {Dn : Ends} {w b n i j : Nat} {r : List Int}
/-! ### the pot first, a new list as the answer -/
end
end LK
set_option Elab.async false
set_option linter.all false
set_option maxRecDepth 100000
set_option maxHeartbeats 1000000
set_option exponentiation.threshold 20000
/-! LK72: the laws' lines: promises -/
namespace LK
open PySem PySem.Spec L2
open PyProof.Rows hiding St
open LA (at')
/-! ### a block in a block -/
section
variable (P : Program) (w : World) (K : PySem.W.Frag) (mg : Str → Option Value) (base : Heap)
end
section
variable {K : PySem.W.Frag} {a : Addr} {S : List Addr} {σ : L2.St} {G H : Hp} {ta tb te t0 : TE} {g : TG} {tb' : TS} {C : PyData → Prop} {E : XK} {Dn : Ends} {w b n i : Nat} {r : List Int} {rs : List (List Int)} {f : Int}
end
end LK
set_option Elab.async false
set_option linter.all false
set_option maxRecDepth 100000
set_option maxHeartbeats 1000000
set_option exponentiation.threshold 20000
/-! LK73: written lists of small ints; rows equal -/
namespace LK
open PySem PySem.Spec L2
open PyProof.Rows hiding St
open LA (at' pivL row spanL NF Red vat qof qsub qdiv pivQ qrest coef qsum)
section
variable {K : PySem.W.Frag} {a : Addr} {S : List Addr} {σ : L2.St} {G H : Hp} {ta tb te t0 : TE} {tr : TA} {C C1 C2 : PyData → Prop} {E : XK} {Dn : Ends} {w b n i : Nat} {r : List Int} {rs : List (List Int)} {f : Int}
end
end LK
set_option Elab.async false
set_option linter.all false
set_option maxRecDepth 100000
set_option maxHeartbeats 1000000
set_option exponentiation.threshold 20000
/-! LK74: what a law asks of a space -/
namespace LK
open PySem PySem.Spec L2
open PyProof.Rows hiding St
open LA (at' pivL row spanL NF Red vat qof qsub qdiv pivQ qrest coef qsum qrun smallB Elim)
theorem ratD_flat (q : Rat) : noDict (ratD q) = true ∧ PyData.canLay0 (ratD q) = true ∧ PyData.depth (ratD q) ≤ 1 := by
  have h := ratD_rat q
  generalize ratD q = d at *
  match d, h with
  | .int n, _ => exact ⟨rfl, by simp [PyData.canLay0], by simp [PyData.depth]⟩
  | .tuple [.int n, .int l], _ => exact ⟨rfl, by simp [PyData.canLay0, PyData.canLayAll0], by simp [PyData.depth, PyData.depthAll]⟩
theorem qrow_eqOk (v : List Rat) : EqOk (qrowD v) := by
  have k : noDictAll (v.map ratD) = true ∧ PyData.canLayAll0 (v.map ratD) = true ∧ PyData.depthAll (v.map ratD) ≤ 1 := by
    induction v with
    | nil => exact ⟨rfl, by simp [PyData.canLayAll0], by simp [PyData.depthAll]⟩
    | cons b bs ih =>
      obtain ⟨a, c, e⟩ := ih
      obtain ⟨x, y, z⟩ := ratD_flat b
      simp only [List.map_cons, noDictAll, PyData.canLayAll0, PyData.depthAll, a, c, x, y, Bool.and_self, true_and]
      omega
  refine ⟨by simpa [noDict, qrowD] using k.1, ?_⟩
  unfold SeqAt.shaped qrowD
  rw [Bool.and_eq_true]
  refine ⟨by simpa [PyData.canLay0] using k.2.1, decide_eq_true ?_⟩
  simp only [PyData.depth]
  omega
section
variable (P : Program) (w : World) (K : PySem.W.Frag) (mg : Str → Option Value) (base : Heap) (C CS : Addr)
end
end LK
set_option Elab.async false
set_option linter.all false
set_option maxRecDepth 100000
set_option maxHeartbeats 1000000
set_option exponentiation.threshold 20000
/-! LK75: lists joined, the second drawn; the sizes of a space of drawn lines -/
namespace LK
open PySem PySem.Spec L2
open PyProof.Rows hiding St
open LA (at' spanL NF NRok)
section
variable {K : PySem.W.Frag} {a : Addr} {σ : L2.St} {G : Hp} {ta tb : TE} {ds : List PyData} {A : List PyData → Prop} {n : Nat}
end
end LK
set_option Elab.async false
set_option linter.all false
set_option maxRecDepth 100000
set_option maxHeartbeats 1000000
/-! LK76: own instances: len, repr, properties, == and != with anything, on both sides -/
namespace LK
open PySem PySem.Spec L2
open PyProof.Rows hiding St
section
variable {X : Cx} {k : Nat} {C f : Addr} {fd : FuncData} {ps : List Str} {sp : Sp} {m : Str}
/-! ### properties -/
end
end LK
set_option Elab.async false
set_option linter.all false
set_option maxRecDepth 100000
set_option maxHeartbeats 1000000
/-! LK77: == and != of own instances with anything, on both sides -/
namespace LK
open PySem PySem.Spec L2
open PyProof.Rows hiding St
section
variable {X : Cx} {k : Nat} {C : Addr} {ps : List Str} {sp : Sp} {pins : List (Addr × Obj)} {σ : St} {H : Hp} {s : Shared} {y : V} {u t : Value}
end
end LK
set_option Elab.async false
set_option linter.all false
set_option maxRecDepth 100000
set_option maxHeartbeats 1000000
/-! LK78: data on the left of an own instance: == and != decline -/
namespace LK
open PySem PySem.Spec L2
open PyProof.Rows hiding St
section
variable {K : PySem.W.Frag} {C x : Addr}
end
section
variable {X : Cx} {k : Nat} {C : Addr} {ps : List Str} {sp : Sp}
end
end LK
set_option Elab.async false
set_option linter.all false
set_option maxRecDepth 100000
set_option maxHeartbeats 1000000
/-! LK79: own == against anything: promises and readings; sheets, spaces -/
namespace LK
open PySem PySem.Spec L2
open PyProof.Rows hiding St
open LA (at' spanL NF NRok)
section
variable {K : PySem.W.Frag} {a : Addr} {S : List Addr} {σ : L2.St} {G H : Hp} {ta tb te : TE} {C CS p q : Addr} {ns : List Str} {F : List (List Int)} {x y : V} {b : Bool} {i j : Nat} {Rel : Hp → V → V → Bool → Prop}
end
section
variable {K : PySem.W.Frag} {a : Addr} {σ : L2.St} {G : Hp} {C CS p : Addr} {ns : List Str} {F : List (List Int)} {y : V} {b : Bool} {i j : Nat}
end
/-! ### {e!r}, e a list -/
end LK
set_option Elab.async false
set_option linter.all false
set_option maxRecDepth 100000
set_option maxHeartbeats 1000000
set_option exponentiation.threshold 20000
/-! LK80: facts of own classes with ==; the operators; methods that answer a sheet; promises of spaces' len, repr, freedom; lists of own instances and data -/
namespace LK
open PySem PySem.Spec L2
open PyProof.Rows hiding St
open LA (at' spanL NF NRok)
section
variable {X : Cx} {K : PySem.W.Frag} {j k : Nat} {C CS : Addr} {ps qs : List Str}
end
section
variable (P : Program) (w : World) (K : PySem.W.Frag) (mg : Str → Option Value) (base : Heap) (C CS : Addr)
end
section
variable {K : PySem.W.Frag} {a : Addr} {S : List Addr} {σ : L2.St} {G H : Hp} {te : TE} {tr : TA} {C CS p : Addr} {ns : List Str} {F : List (List Int)} {pre : List Str → List (List Int) → Prop} {g : List Str → List (List Int) → PyData} {i j n : Nat} {E : L2.St → XK}
/-! ### a written list whose items are values -/
end
end LK
set_option Elab.async false
set_option linter.all false
set_option maxRecDepth 100000
set_option maxHeartbeats 1000000
set_option exponentiation.threshold 20000
/-! LK81: rows as data: ==; the text of a space; differences -/
namespace LK
open PySem PySem.Spec L2
open PyProof.Rows hiding St
open LA (at' spanL NF NRok)
section
variable {K : PySem.W.Frag} {a : Addr} {S : List Addr} {σ : L2.St} {G H : Hp} {ta tb te : TE} {i j : Int} {ds es : List PyData}
end
end LK
set_option Elab.async false
set_option linter.all false
set_option maxRecDepth 100000
set_option maxHeartbeats 1000000
set_option exponentiation.threshold 20000
/-! LK82: common divisors of any ints; the law's normal form -/
namespace LK
open PySem PySem.Spec L2
open PyProof.Rows hiding St
open LA (at' pivL row spanL NF Red vat qof leadQ lowN gcdI)
theorem Df.imp {P : Program} {w : World} {K : PySem.W.Frag} {mg : Str → Option Value} {base : Heap} {CX : CXT} {k : Nat} {x : Str} {ps : List Str} {sp sp' : Sp} (F : Df P w K mg base CX k x ps sp) (h : ∀ vs H Q E, sp' vs H Q E → sp vs H Q E) : Df P w K mg base CX k x ps sp' := by
  obtain ⟨f, fd, a, b⟩ := F.ex
  exact ⟨f, fd, a.imp h, b⟩
end LK
set_option Elab.async false
set_option linter.all false
set_option maxRecDepth 100000
set_option maxHeartbeats 1000000
set_option exponentiation.threshold 20000
/-! LK83: the law's normal form: promise, parts -/
namespace LK
open PySem PySem.Spec L2
open PyProof.Rows hiding St
open LA (at' pivL row spanL NF Red vat qof leadQ lowN gcdI)
section
variable {K : PySem.W.Frag} {a : Addr} {σ : L2.St} {G : Hp} {ta tb te : TE} {w : Nat} {rs : List (List Int)} {E : XK} {q : Rat}
end
end LK
set_option Elab.async false
set_option linter.all false
set_option maxRecDepth 100000
set_option maxHeartbeats 1000000
set_option exponentiation.threshold 20000
/-! LK84: mixed lists that are new; promises of the law of normal forms -/
namespace LK
open PySem PySem.Spec L2
open PyProof.Rows hiding St
open LA (at' pivL row spanL NF Red)
section
variable {K : PySem.W.Frag} {a : Addr} {S : List Addr} {H : Hp}
end
section
variable {K : PySem.W.Frag} {a : Addr} {S : List Addr} {σ : L2.St} {G H : Hp} {te tb ty : TE} {tr : TA} {E : XK} {E' : L2.St → XK} {Dn : Ends} {A1 : List PyData → Prop} {C CS p : Addr} {ns : List Str} {F : List (List Int)} {es : List PyData} {Cd : PyData → Prop}
end
/-! ### promises -/
section
variable (P : Program) (w : World) (K : PySem.W.Frag) (mg : Str → Option Value) (base : Heap) (C CS : Addr)
end
section
variable {K : PySem.W.Frag} {a : Addr} {S : List Addr} {σ : L2.St} {G H : Hp} {te tb ty : TE} {E : XK} {C CS p : Addr} {ns : List Str} {F : List (List Int)} {b : Bool} {i : Nat}
end
theorem Sz.len {n k : Nat} {d : PyData} (h : Sz n k d) : d.shown.length ≤ 2002 * n + 2000 := by
  have h1 := PyData.shown_le_bulk 2000 (by decide) d h.lv
  have h2 := h.bk
  have : (2000 + 2) * d.bulk ≤ 2002 * n := Nat.mul_le_mul_left 2002 h2
  omega
end LK
set_option Elab.async false
set_option linter.all false
set_option maxRecDepth 100000
set_option maxHeartbeats 1000000
set_option exponentiation.threshold 20000
/-! LK85: sums of two rows -/
namespace LK
open PySem PySem.Spec L2
open PyProof.Rows hiding St
open LA (at' pivL row spanL NF Red)
end LK
set_option Elab.async false
set_option linter.all false
set_option maxRecDepth 100000
set_option maxHeartbeats 1000000
set_option exponentiation.threshold 20000
/-! LK86: new lists as answers; spaces whose objects are new -/
namespace LK
open PySem PySem.Spec L2
open PyProof.Rows hiding St
open LA (at' pivL row spanL NF NRok Red)
section
variable {K : PySem.W.Frag} {a : Addr} {S : List Addr} {σ : L2.St} {G H : Hp} {te : TE} {F : List (List Int)} {q : Addr}
end
section
variable (P : Program) (w : World) (K : PySem.W.Frag) (mg : Str → Option Value) (base : Heap) (C CS : Addr)
end
end LK
set_option Elab.async false
set_option linter.all false
set_option maxRecDepth 100000
set_option maxHeartbeats 1000000
set_option exponentiation.threshold 20000
/-! LK87: the law of normal forms: its last def's parts -/
namespace LK
open PySem PySem.Spec L2
open PyProof.Rows hiding St
open LA (at' pivL row spanL NF NRok Red)
section
variable {K : PySem.W.Frag} {a : Addr} {S : List Addr} {σ : L2.St} {G H : Hp} {ta tb te ts : TE} {tr : TA} {E : L2.St → XK} {Dn : Ends} {C CS p q : Addr} {ns : List Str} {F : List (List Int)} {rs : List (List Int)} {es : List PyData} {C1 : PyData → Prop} {Cn : List Str → Prop} {i j k : Nat}
end
/-! ### plain -/
end LK
set_option Elab.async false
set_option linter.all false
set_option maxRecDepth 100000
set_option maxHeartbeats 1000000
set_option exponentiation.threshold 20000
/-! LK88: rows of which a space is made, from which the same follow -/
namespace LK
open PySem PySem.Spec L2
open PyProof.Rows hiding St
open LA (at' pivL row spanL NF NRok Red)
end LK
namespace LK
open PySem PySem.Spec L2
open PyProof.Rows hiding St
end LK
namespace LK
open PySem PySem.Spec L2
open PyProof.Rows hiding St
end LK
set_option Elab.async false
set_option linter.all false
set_option maxRecDepth 100000
set_option maxHeartbeats 1000000
/-! LK89: zip of lists of unlike lengths; every other item of a list; range(0, n, 2) -/
namespace LK
open PySem PySem.Spec L2
open PyProof.Rows hiding St
section
variable {K : PySem.W.Frag} {a : Addr} {S : List Addr} {σ : L2.St} {G H : Hp} {te ta tb : TE} {n : Nat} {es fs ds : List PyData}
end
/-! ### l[::2], l[1::2] -/
def stepL {α : Type} (o : Nat) (xs : List α) : List α := (List.range ((xs.length + 1 - o) / 2)).filterMap fun k => xs[o + 2 * k]?
def evens {α : Type} : List α → List α
  | x :: _ :: r => x :: evens r
  | [x] => [x]
  | [] => []
theorem evens_pick {α : Type} : ∀ xs : List α, (List.range ((xs.length + 1) / 2)).filterMap (fun k => xs[2 * k]?) = evens xs
  | [] => by simp [evens]
  | [x] => by simp [evens, List.range_succ]
  | x :: y :: r => by
    have e : ((x :: y :: r).length + 1) / 2 = (r.length + 1) / 2 + 1 := by
      simp only [List.length_cons]
      omega
    rw [e, List.range_succ_eq_map, List.filterMap_cons, List.filterMap_map]
    show x :: _ = x :: evens r
    rw [← evens_pick r]
    congr 1
theorem stepL_evens {α : Type} {o : Nat} (ho : o ≤ 1) (xs : List α) : stepL o xs = evens (xs.drop o) := by
  rw [← evens_pick]
  unfold stepL
  rw [List.length_drop]
  by_cases h : o ≤ xs.length
  · rw [show xs.length + 1 - o = xs.length - o + 1 by omega]
    congr 1
    funext k
    rw [List.getElem?_drop]
  · have e1 : (xs.length + 1 - o) / 2 = 0 := by omega
    have e2 : (xs.length - o + 1) / 2 = 0 := by omega
    rw [e1, e2]
    rfl
theorem Vals.step {o : Nat} {xs : List V} {us : List Value} (h : Vals xs us) (ho : o ≤ 1) : Vals (stepL o xs) (stepL o us) := by
  rw [stepL_evens ho, stepL_evens ho]
  have ev : ∀ {xs : List V} {us : List Value}, Vals xs us → Vals (evens xs) (evens us) := by
    intro xs
    induction xs using evens.induct with
    | case1 x y r ih =>
      intro us h
      cases h with
      | cons h1 h => cases h with
        | cons h2 h => exact .cons h1 (ih h)
    | case2 x =>
      intro us h
      cases h with
      | cons h1 h =>
        cases h
        exact .cons h1 .nil
    | case3 =>
      intro us h
      cases h
      exact .nil
  have dr : ∀ {xs : List V} {us : List Value}, Vals xs us → ∀ o, Vals (xs.drop o) (us.drop o) := by
    intro xs us h o
    induction o generalizing xs us with
    | zero => exact h
    | succ o ih =>
      cases h with
      | nil => exact .nil
      | cons h1 h => exact ih h
  exact ev (dr h o)
section
variable {X : Cx} {K : PySem.W.Frag} {e lo st : Expr} {te tl ts : TE} {pos p2 : Pos}
end
theorem DA.step {K : PySem.W.Frag} {H : Hp} {o : Nat} {xs : List V} {ds : List PyData} (h : DA K H xs ds) (ho : o ≤ 1) : DA K H (stepL o xs) (stepL o ds) := by
  rw [stepL_evens ho, stepL_evens ho]
  have ev : ∀ {xs : List V} {us : List PyData}, DA K H xs us → DA K H (evens xs) (evens us) := by
    intro xs
    induction xs using evens.induct with
    | case1 x y r ih =>
      intro us h
      cases h with
      | cons h1 h => cases h with
        | cons h2 h => exact .cons h1 (ih h)
    | case2 x =>
      intro us h
      cases h with
      | cons h1 h =>
        cases h
        exact .cons h1 .nil
    | case3 =>
      intro us h
      cases h
      exact .nil
  have dr : ∀ {xs : List V} {us : List PyData}, DA K H xs us → ∀ o, DA K H (xs.drop o) (us.drop o) := by
    intro xs us h o
    induction o generalizing xs us with
    | zero => exact h
    | succ o ih =>
      cases h with
      | nil => exact .nil
      | cons h1 h => exact ih h
  exact ev (dr h o)
section
variable {K : PySem.W.Frag} {a : Addr} {S : List Addr} {σ : L2.St} {G H : Hp} {te tl ts : TE} {ds : List PyData}
end
end LK
set_option Elab.async false
set_option linter.all false
set_option maxRecDepth 100000
set_option maxHeartbeats 1000000
/-! LK90: texts of equations, plain -/
namespace LK
open PySem PySem.Spec L2
open PyProof.Rows hiding St
open TL (tl)
open LA (at')
end LK
set_option Elab.async false
set_option linter.all false
set_option maxRecDepth 100000
set_option maxHeartbeats 1000000
/-! LK91: runs without gaps; promises about texts of equations -/
namespace LK
open PySem PySem.Spec L2
open PyProof.Rows hiding St
open TL (tl)
open LA (at')
/-! ### promises -/
section
variable {K : PySem.W.Frag} {a : Addr} {S : List Addr} {σ : L2.St} {G H : Hp} {ta tb te : TE} {tr : TA} {C C1 p : Addr} {ns : List Str} {f1 : Str} {ds : List PyData} {i : Nat}
end
end LK
set_option Elab.async false
set_option linter.all false
set_option maxRecDepth 100000
set_option maxHeartbeats 1000000
/-! LK92: pairs of coefficients and fields; what is due -/
namespace LK
open PySem PySem.Spec L2
open PyProof.Rows hiding St
open TL (tl)
open LA (at')
/-! ### a whole number's word -/
/-! ### what is due -/
end LK
set_option Elab.async false
set_option linter.all false
set_option maxRecDepth 100000
set_option maxHeartbeats 1000000
/-! LK93: [0] * n as a list that will change; stores at a known place -/
namespace LK
open PySem PySem.Spec L2
open PyProof.Rows hiding St
section
variable {K : PySem.W.Frag} {a : Addr} {S : List Addr} {σ : L2.St} {G H : Hp} {ta tb tc te ti : TE} {Dn : Ends} {L : Addr} {C C2 C3 : PyData → Prop}
theorem rep_one {α : Type} (n : Nat) (z : α) : (List.replicate n [z]).flatten = List.replicate n z := by
  induction n with
  | zero => rfl
  | succ n ih =>
    rw [List.replicate_succ, List.flatten_cons, ih]
    rfl
theorem q_storeE {T : List Addr} {GT : Hp} {i k : Nat} {acc : List V} (hi : σ[i]? = some (some (.ref L))) (hL : H L = some (.lst acc)) (hLa : L ≠ a) (h : Ev K a GT te σ C) (hx : Ev K a G ti σ (· = .int (k : Nat))) (hk : k < acc.length) (fT : Fr a T H) (sT : Same GT (off T H)) (f : Fr a S H) (s : Same G (off S H))
    (q : ∀ v d H', Ext a H H' → Fr a T H' → H' L = some (.lst acc) → D K (off T H') v d → C d → Dn.nx σ (upd H' L (.lst (acc.set k v)))) : tAsg te (gSub (tVar i) ti rSetL) Dn σ H :=
  h T H fT sT _ fun v d H2 x2 m cd => ⟨.ref L, hi, hx S H2 (f.ext x2) (f.same x2 s) _ fun z e H3 x3 m3 c3 => by
    subst c3
    cases m3
    refine ⟨L, acc, (k : Int), k, rfl, rfl, (x2.trans x3).keep _ _ hLa hL, ?_, q v d H3 (x2.trans x3) ((fT.ext x2).ext x3) ((x2.trans x3).keep _ _ hLa hL) (m.mono (x3.off fT.mem)) cd⟩
    unfold ixN
    rw [if_pos (by omega), if_pos (by omega)]
    rfl⟩
end
end LK
set_option Elab.async false
set_option linter.all false
set_option maxRecDepth 100000
set_option maxHeartbeats 1000000
/-! LK94: comprehensions as new lists; words that will change; spoilt texts -/
namespace LK
open PySem PySem.Spec L2
open PyProof.Rows hiding St
open TL (tl)
section
variable {K : PySem.W.Frag} {a : Addr} {S : List Addr} {σ : L2.St} {G H : Hp} {te tb ts : TE} {tt : TT} {wi : TI} {X : Nat → PyData → Prop} {n : Nat} {Dn : Ends} {x : Str}
end
/-! ### spoilt texts -/
end LK
set_option Elab.async false
set_option linter.all false
set_option maxRecDepth 100000
set_option maxHeartbeats 1000000
set_option exponentiation.threshold 20000
/-! LK95: what the law of the equations' texts asks about -/
namespace LK
open PySem PySem.Spec L2
open PyProof.Rows hiding St
open TL (tl)
open LA (at')
section
variable {K : PySem.W.Frag} {a : Addr} {S : List Addr} {σ : L2.St} {G H : Hp} {te : TE} {C C1 p : Addr} {ns : List Str} {f1 : Str} {d : PyData}
end
/-! what is asked: texts -/
/-! what is refused -/
end LK
set_option Elab.async false
set_option linter.all false
set_option maxRecDepth 100000
set_option maxHeartbeats 4000000
/-! LK96: exceptions without a context; raised in an except suite -/
namespace LK
open PySem PySem.Spec L2
open PyProof.Rows hiding St
section
variable {P : Program} {w : World} {K : PySem.W.Frag} {mg : Str → Option Value} {base : Heap}
end
section
variable {X : Cx} {e : Expr} {es : List Expr} {ta : TA} {te : TE} {x f : Str} {C fI : Addr} {p pos pos' : Pos} {W : WX}
end
end LK
set_option Elab.async false
set_option linter.all false
set_option maxRecDepth 100000
set_option maxHeartbeats 1000000
/-! LK97: sheets made of anything: slices and tests of lists or tuples, str, ==, class methods -/
namespace LK
open PySem PySem.Spec L2
open PyProof.Rows hiding St
section
variable {X : Cx} {K : PySem.W.Frag}
end
section
variable {K : PySem.W.Frag} {a : Addr} {S : List Addr} {σ : L2.St} {G H : Hp} {ta tb te : TE} {tl th : TO} {lo hi : Option Int} {ds : List PyData} {ns ms : List Str} {x : Str} {p q C : Addr} {y : V} {d : PyData}
end
/-! ### str(x) -/
section
variable {X : Cx} {k : Nat} {C : Addr} {ps : List Str} {sp : Sp}
/-! ### == of sheets -/
end
section
variable {K : PySem.W.Frag} {a : Addr} {σ : L2.St} {G : Hp} {C p q : Addr} {ns ms : List Str} {y : V} {d : PyData} {i j : Nat}
end
/-! ### class methods -/
section
variable {X : Cx} {CX : CXT} {k : Nat} {C : Addr} {ps : List Str} {sp : Sp} {E : L2.St → XK} {m : Str} {pos apos : Pos} {e o : Expr} {es : List Expr} {t : TA} {ta : TE}
end
end LK
set_option Elab.async false
set_option linter.all false
set_option maxRecDepth 100000
set_option maxHeartbeats 1000000
/-! LK98: which fields are due, plain; sheets made of anything: promises and readings -/
namespace LK
open PySem PySem.Spec L2
open PyProof.Rows hiding St
section
variable {K : PySem.W.Frag} {a : Addr} {S : List Addr} {σ : L2.St} {G H : Hp} {te ta : TE} {C CI CT : Addr} {d : PyData} {Cn : List Str → Prop}
end
end LK
set_option Elab.async false
set_option linter.all false
set_option maxRecDepth 100000
set_option maxHeartbeats 1000000
/-! LK99: replace within a written list, list(range(n)), written dicts, constants through an instance, new lists dropped -/
namespace LK
open PySem PySem.Spec L2
open PyProof.Rows hiding St
section
variable {X : Cx} {e f : Expr} {es : List Expr} {te tf : TE} {t : TA} {pos : Pos} {z : Str} {j : Nat} {c0 : Pos}
end
section
variable {K : PySem.W.Frag} {a : Addr} {S : List Addr} {σ : L2.St} {G H : Hp} {te ta : TE} {C p : Addr} {ns : List Str} {d : PyData} {x y z : Str} {i j n : Nat} {Dn : Ends} {E : L2.St → XK}
end
end LK
set_option Elab.async false
set_option linter.all false
set_option maxRecDepth 100000
set_option maxHeartbeats 1000000
/-! LK100: len, str, repr, properties of sheets; places that are asked for -/
namespace LK
open PySem PySem.Spec L2
open PyProof.Rows hiding St
section
variable {K : PySem.W.Frag} {a : Addr} {S : List Addr} {σ : L2.St} {G H : Hp} {C p : Addr} {ns : List Str} {i : Nat} {g : List Str → PyData}
end
/-! ### place, of anything -/
end LK
set_option Elab.async false
set_option linter.all false
set_option maxRecDepth 100000
set_option maxHeartbeats 1000000
/-! LK101: promises of the law of the sheets -/
namespace LK
open PySem PySem.Spec L2
open PyProof.Rows hiding St
section
variable {K : PySem.W.Frag} {a : Addr} {S : List Addr} {σ : L2.St} {G H : Hp} {tb tc : TE} {C p : Addr} {ns ms : List Str} {i j k : Nat} {E : XK} {v : V}
end
end LK
set_option Elab.async false
set_option linter.all false
set_option maxRecDepth 100000
set_option maxHeartbeats 1000000
/-! LK102: lists with odd items put in, their texts -/
namespace LK
open PySem PySem.Spec L2
open PyProof.Rows hiding St
open TL (tl)
section
variable {K : PySem.W.Frag} {a : Addr} {S : List Addr} {σ : L2.St} {G H : Hp} {te ta tb : TE} {ds : List PyData}
end
end LK
set_option Elab.async false
set_option linter.all false
set_option maxRecDepth 100000
set_option maxHeartbeats 1000000
/-! LK103: *e in written lists -/
namespace LK
open PySem PySem.Spec L2
open PyProof.Rows hiding St
section
variable {K : PySem.W.Frag} {a : Addr} {S : List Addr} {σ : L2.St} {G H : Hp} {te : TE} {tr : TA} {es : List PyData} {A1 : List PyData → Prop}
end
end LK
set_option Elab.async false
set_option linter.all false
set_option maxRecDepth 100000
set_option maxHeartbeats 1000000
set_option exponentiation.threshold 20000
/-! LK104: places as data; promises of a space's methods about fields -/
namespace LK
open PySem PySem.Spec L2
open PyProof.Rows hiding St
open LA (at' pivL row spanL NF Red NRok unitL permL ordO outO solvedR hit FreeR entV pairV)
theorem ints_eqOk (xs : List Int) : EqOk (.list (xs.map .int)) := by
  rw [row_qrow]
  exact qrow_eqOk _
section
variable {K : PySem.W.Frag} {a : Addr} {S : List Addr} {σ : L2.St} {G H : Hp} {ta tb tl te t0 : TE} {tt : TT} {tr : TA} {C CS p : Addr} {ns : List Str} {F : List (List Int)} {P : List Nat} {i j n : Nat} {Cd : PyData → Prop} {E : L2.St → XK} {E' : XK} {d : PyData}
end
/-! ### promises -/
section
variable (P : Program) (w : World) (K : PySem.W.Frag) (mg : Str → Option Value) (base : Heap) (C CS CN : Addr)
end
section
variable {K : PySem.W.Frag} {a : Addr} {S : List Addr} {σ : L2.St} {G H : Hp} {ta tb tl te t0 : TE} {tt : TT} {tr : TA} {C CS C1 p : Addr} {ns : List Str} {F : List (List Int)} {P : List Nat} {i j n x : Nat} {Cd : PyData → Prop} {E : L2.St → XK} {E' : XK} {d : PyData} {f1 : Str} {ds : List PyData}
end
end LK
set_option Elab.async false
set_option linter.all false
set_option maxRecDepth 100000
set_option maxHeartbeats 1000000
set_option exponentiation.threshold 20000
/-! LK105: the row that is looked for; lists of equal items that will change -/
namespace LK
open PySem PySem.Spec L2
open PyProof.Rows hiding St
open LA (at' pivL row spanL NF Red NRok unitL permL ordO outO solvedR hit FreeR entV pairV modF)
section
variable {K : PySem.W.Frag} {a : Addr} {S : List Addr} {σ : L2.St} {G H : Hp} {ta tb tc te ti t0 : TE} {Dn : Ends} {L : Addr} {C C2 C3 : PyData → Prop} {g : TG} {tb' : TS} {i j n k : Nat} {d : PyData}
end
end LK
set_option Elab.async false
set_option linter.all false
set_option maxRecDepth 100000
set_option maxHeartbeats 1000000
set_option exponentiation.threshold 20000
/-! LK106: sizes of the entries of an identity -/
namespace LK
open PySem PySem.Spec L2
open PyProof.Rows hiding St
open LA (at' pivL row spanL NF Red NRok unitL permL ordO outO solvedR hit FreeR entV entN pairV modF)
end LK
set_option Elab.async false
set_option linter.all false
set_option maxRecDepth 100000
set_option maxHeartbeats 1000000
set_option exponentiation.threshold 20000
/-! LK107: what a law asks about identities: promises -/
namespace LK
open PySem PySem.Spec L2
open PyProof.Rows hiding St
open LA (at' pivL row spanL NF Red NRok unitL permL ordO outO solvedR hit FreeR entV entN pairV modF qof vat qrun leadQ hitQ ratV dueV qsumT wgt)
section
variable (P : Program) (w : World) (K : PySem.W.Frag) (mg : Str → Option Value) (base : Heap) (C CS : Addr)
end
section
variable {K : PySem.W.Frag} {a : Addr} {S : List Addr} {σ : L2.St} {G H : Hp} {ta tb tl te t0 tc td : TE} {tt : TT} {tr : TA} {C CS C1 p : Addr} {ns : List Str} {F : List (List Int)} {P : List Nat} {i j n x w : Nat} {Cd : PyData → Prop} {E : L2.St → XK} {E' : XK} {d : PyData} {rs : List (List Int)}
end
end LK
set_option Elab.async false
set_option linter.all false
set_option maxRecDepth 100000
set_option maxHeartbeats 1000000
set_option exponentiation.threshold 20000
/-! LK108: what a law asks about identities: readings -/
namespace LK
open PySem PySem.Spec L2
open PyProof.Rows hiding St
open LA (at' pivL row spanL NF Red NRok unitL permL ordO outO solvedR hit FreeR entV entN pairV modF qof vat qrun leadQ hitQ ratV dueV qsumT wgt)
section
variable {K : PySem.W.Frag} {a : Addr} {S : List Addr} {σ : L2.St} {G H : Hp} {ta tb tl te t0 tc td : TE}
end
end LK
set_option Elab.async false
set_option linter.all false
set_option maxRecDepth 100000
set_option maxHeartbeats 1000000
set_option exponentiation.threshold 20000
/-! LK109: the numbers of an identity and what their sum is; two keywords -/
namespace LK
open PySem PySem.Spec L2
open PyProof.Rows hiding St
open LA (at' pivL row spanL NF Red NRok unitL permL ordO outO solvedR hit FreeR entV entN pairV modF qof vat qrun leadQ hitQ ratV dueV qsumT wgt smallB SmallQ)
/-! ### two keywords, in the other sequence -/
section
variable {P : Program} {w : World} {K : PySem.W.Frag} {mg : Str → Option Value} {base : Heap}
end
section
variable {K : PySem.W.Frag} {a : Addr} {S : List Addr} {σ : L2.St} {G H : Hp} {ta tb te : TE} {tr : TA} {C CS C1 p : Addr} {ns : List Str} {F : List (List Int)} {i : Nat} {Cd : PyData → Prop} {E : L2.St → XK} {E' : XK} {d e : PyData} {f1 : Str} {ds : List PyData}
end
end LK
set_option Elab.async false
set_option linter.all false
set_option maxRecDepth 100000
set_option maxHeartbeats 1000000
set_option exponentiation.threshold 20000
/-! LK110: what a formula and an identity say together -/
namespace LK
open PySem PySem.Spec L2
open PyProof.Rows hiding St
open LA (at' pivL row spanL NF Red NRok unitL permL ordO outO solvedR hit FreeR entV entN pairV modF qof vat qrun leadQ hitQ ratV dueV qsumT wgt smallB SmallQ)
variable {ns : List Str} {rs F : List (List Int)} {x : Nat} {R : List Nat} {d8 d z : PyData} {es : List PyData}
end LK
set_option Elab.async false
set_option linter.all false
set_option maxRecDepth 100000
set_option maxHeartbeats 1000000
set_option exponentiation.threshold 20000
/-! LK111: slices of what is drawn; fields that are free together -/
namespace LK
open PySem PySem.Spec L2
open PyProof.Rows hiding St
open LA (at' pivL row spanL unitL FreeR)
section
variable {K : PySem.W.Frag} {a : Addr} {S : List Addr} {σ : L2.St} {G H : Hp} {ta tb tc te : TE} {P : List Nat} {w : Nat} {rs : List (List Int)} {E' : XK}
end
end LK
set_option Elab.async false
set_option linter.all false
set_option maxRecDepth 100000
set_option maxHeartbeats 1000000
set_option exponentiation.threshold 20000
/-! LK112: the law's elimination of up to twelve columns -/
namespace LK
open PySem PySem.Spec L2
open PyProof.Rows hiding St
open LA (at' pivL row spanL NF Red vat qof qsub qdiv pivQ qstep qrun QSt someQ Elim SmallQ smallB qred1 qrest qacc coef qsum)
section
variable (P : Program) (w : World) (K : PySem.W.Frag) (mg : Str → Option Value) (base : Heap)
end
variable {w i : Nat} {rs F : List (List Int)}
section
variable {K : PySem.W.Frag} {a : Addr} {σ : L2.St} {G : Hp} {ta tb te : TE} {E : XK}
end
end LK
set_option Elab.async false
set_option linter.all false
set_option maxRecDepth 100000
set_option maxHeartbeats 1000000
set_option exponentiation.threshold 20000
/-! LK113: new dicts: comprehensions with an if, d.items() of a dict that was just made -/
namespace LK
open PySem PySem.Spec L2
open PyProof.Rows hiding St
section
variable {K : PySem.W.Frag} {a : Addr} {S : List Addr} {σ : L2.St} {G H : Hp} {tt : TT} {tk tv te : TE} {wi : TI} {n : Nat} {X : Nat → PyData → Prop}
end
/-! ### d.items() of a dict that was just made: it is locked for good -/
section
variable {K : PySem.W.Frag} {a : Addr} {S : List Addr} {σ : L2.St} {G H : Hp} {te : TE} {kvs : List (Key × V)} {es : List (Str × PyData)} {d : Addr} {o : Obj}
end
end LK
set_option Elab.async false
set_option linter.all false
set_option maxRecDepth 100000
set_option maxHeartbeats 1000000
set_option exponentiation.threshold 20000
/-! LK114: fields that are determined, expressions: promises -/
namespace LK
open PySem PySem.Spec L2
open PyProof.Rows hiding St
open LA (at' pivL row spanL NF Red NRok unitL permL ordO outO solvedR hit FreeR ratV)
section
variable (P : Program) (w : World) (K : PySem.W.Frag) (mg : Str → Option Value) (base : Heap) (C CS CN : Addr)
end
section
variable {K : PySem.W.Frag} {a : Addr} {S : List Addr} {σ : L2.St} {G H : Hp} {tr : TA} {C CS C1 p : Addr} {ns : List Str} {F : List (List Int)} {i : Nat} {Cd : PyData → Prop} {E : L2.St → XK} {f1 : Str} {ds : List PyData}
end
end LK
set_option Elab.async false
set_option linter.all false
set_option maxRecDepth 100000
set_option maxHeartbeats 1000000
set_option exponentiation.threshold 20000
/-! LK115: fields that are determined, expressions: readings -/
namespace LK
open PySem PySem.Spec L2
open PyProof.Rows hiding St
open LA (at' pivL row spanL NF Red NRok unitL permL ordO outO solvedR hit FreeR ratV modF vat qof dueV)
section
variable {K : PySem.W.Frag} {a : Addr} {S : List Addr} {σ : L2.St} {G H : Hp} {te : TE} {tr : TA} {C CS p : Addr} {ns : List Str} {F : List (List Int)} {i : Nat} {R : List Nat} {d : PyData} {E : L2.St → XK}
end
end LK
set_option Elab.async false
set_option linter.all false
set_option maxRecDepth 100000
set_option maxHeartbeats 1000000
set_option exponentiation.threshold 20000
/-! LK116: pairs of an expression; names with their places -/
namespace LK
open PySem PySem.Spec L2
open PyProof.Rows hiding St
open LA (at' pivL row spanL NF Red NRok unitL permL ordO outO solvedR hit FreeR ratV modF vat qof dueV pairV)
section
variable {K : PySem.W.Frag} {a : Addr} {S : List Addr} {σ : L2.St} {G H : Hp} {te : TE} {ns : List Str}
end
end LK
set_option Elab.async false
set_option linter.all false
set_option maxRecDepth 100000
set_option maxHeartbeats 1000000
set_option exponentiation.threshold 20000
/-! LK117: fields that are found one after another; full lines -/
namespace LK
open PySem PySem.Spec L2
open PyProof.Rows hiding St
open LA (at' pivL row spanL NF Red NRok unitL permL ordO outO solvedR hit FreeR ratV modF vat qof dueV qsumT)
variable {ns : List Str} {rs F : List (List Int)} {R : List Nat} {x : Nat} {d z : PyData} {es : List PyData} {zs : List Rat}
section
variable {K : PySem.W.Frag} {a : Addr} {S : List Addr} {σ : L2.St} {G H : Hp} {ta te : TE} {C1 : PyData → Prop} {Dn : Ends}
end
end LK
set_option Elab.async false
set_option linter.all false
set_option maxRecDepth 100000
set_option maxHeartbeats 1000000
set_option exponentiation.threshold 20000
/-! LK118: determined fields exactly; a space and data at once; the law's loop in general -/
namespace LK
open PySem PySem.Spec L2
open PyProof.Rows hiding St
open LA (at' pivL row spanL NF Red NRok unitL permL ordO outO solvedR hit FreeR ratV modF vat qof dueV qsumT)
noncomputable def detB (n : Nat) (F : List (List Int)) (R : List Nat) (i : Nat) : Bool := @decide (spanL (F ++ R.map (unitL n)) (row (unitL n i))) (Classical.propDecidable _)
noncomputable def detL (n : Nat) (F : List (List Int)) (R : List Nat) : List Nat := (List.range n).filter (detB n F R)
variable {K : PySem.W.Frag} {a : Addr} {S : List Addr} {σ : L2.St} {G H : Hp} {ta tb te : TE} {tr : TA} {C CS p : Addr} {ns : List Str} {F : List (List Int)} {R : List Nat} {d : PyData} {i x : Nat} {C2 : PyData → Prop} {Dn : Ends} {E : L2.St → XK}
end LK
set_option Elab.async false
set_option linter.all false
set_option maxRecDepth 100000
set_option maxHeartbeats 1000000
set_option exponentiation.threshold 20000
/-! LK119: eliminations of rows of numbers; solutions; ranks; expressions that may be refused -/
namespace LK
open PySem PySem.Spec L2
open PyProof.Rows hiding St
open LA (at' pivL row spanL NF Red NRok unitL permL ordO outO solvedR hit FreeR ratV modF vat qof dueV qsumT pv0 leadQ qrun qstep ansQ ansV solP selQ rankQ SmallQ pivQ qdiv qsub someQ qtot)
/-! ### rows of numbers -/
/-! ### solutions -/
section
variable (P : Program) (w : World) (K : PySem.W.Frag) (mg : Str → Option Value) (base : Heap)
end
/-! ### totals -/
section
variable (P : Program) (w : World) (K : PySem.W.Frag) (mg : Str → Option Value) (base : Heap)
end
/-! ### expressions that may be refused -/
section
variable (P : Program) (w : World) (K : PySem.W.Frag) (mg : Str → Option Value) (base : Heap) (C CS CN CF : Addr)
end
section
variable {K : PySem.W.Frag} {a : Addr} {S : List Addr} {σ : L2.St} {G H : Hp} {ta tb te : TE} {tr : TA} {C CS C1 C2 p : Addr} {f1 f2 : Str} {ns : List Str} {F rs : List (List Int)} {R : List Nat} {d : PyData} {i j w x : Nat} {Dn : Ends} {E : L2.St → XK} {E' : XK} {ds : List PyData} {xs : List (Bool × List Rat)} {l zs us : List Rat}
end
end LK
set_option Elab.async false
set_option linter.all false
set_option maxRecDepth 100000
set_option maxHeartbeats 1000000
set_option exponentiation.threshold 20000
/-! LK120: expressions asked, and what is due -/
namespace LK
open PySem PySem.Spec L2
open PyProof.Rows hiding St
open LA (at' pivL row spanL NF Red NRok unitL permL ordO outO solvedR hit FreeR ratV modF vat qof dueV qsumT pv0 leadQ qrun ansQ ansV solP selQ rankQ SmallQ qtot Ker)
section
variable {ns : List Str} {rs F : List (List Int)} {R : List Nat} {x j : Nat} {z z' : PyData} {zs : List Rat}
end
/-! ### promises -/
section
variable (P : Program) (w : World) (K : PySem.W.Frag) (mg : Str → Option Value) (base : Heap) (C CS : Addr)
end
end LK
set_option Elab.async false
set_option linter.all false
set_option maxRecDepth 100000
set_option maxHeartbeats 1000000
set_option exponentiation.threshold 20000
/-! LK121: list(d.items()), isinstance of a new dict, d.clear() -/
namespace LK
open PySem PySem.Spec L2
open PyProof.Rows hiding St
section
variable {K : PySem.W.Frag} {a : Addr} {S T : List Addr} {σ : L2.St} {G H : Hp} {kvs : List (Key × V)} {es : List (Str × PyData)} {Dd : Addr} {i : Nat} {Dn : Ends}
end
end LK
set_option Elab.async false
set_option linter.all false
set_option maxRecDepth 100000
set_option maxHeartbeats 1000000
set_option exponentiation.threshold 20000
/-! LK122: formulas as expressions; lists of pairs walked -/
namespace LK
open PySem PySem.Spec L2
open PyProof.Rows hiding St
open LA (at' pivL row spanL NF Red NRok unitL permL ordO outO solvedR hit FreeR ratV modF vat qof dueV qsumT pv0 leadQ qrun ansQ ansV solP selQ rankQ SmallQ qtot Ker)
section
variable {ns : List Str} {rs F : List (List Int)} {R : List Nat} {x : Nat} {d : PyData} {zs : List Rat}
end
section
variable {α : Type} {K : PySem.W.Frag} {a : Addr} {S : List Addr} {σ : L2.St} {G H : Hp} {te : TE} {wi : TI} {n : Nat} {X Y : Nat → PyData → Prop} {xs : List α}
theorem Walks.imp (h : Walks K a G wi σ n X) (i : ∀ k d, X k d → Y k d) : Walks K a G wi σ n Y := fun S H1 f s R q =>
  h S H1 f s R fun J Gh Yv H2 x2 w g y => q J Gh Yv H2 x2 w g fun S' k H' x H'' f' s' hk yv => by
    obtain ⟨h1, h2, d, m, c⟩ := y S' k H' x H'' f' s' hk yv
    exact ⟨h1, h2, d, m, i k d c⟩
end
end LK
set_option Elab.async false
set_option linter.all false
set_option maxRecDepth 100000
set_option maxHeartbeats 1000000
set_option exponentiation.threshold 20000
/-! LK123: sizes of what is asked, places drawn -/
namespace LK
open PySem PySem.Spec L2
open PyProof.Rows hiding St
open LA (at' pivL row spanL NF Red NRok unitL permL ordO outO solvedR hit FreeR ratV modF vat qof dueV qsumT pv0 leadQ qrun ansQ ansV solP selQ rankQ SmallQ qtot Ker)
section
variable {ns : List Str} {rs F : List (List Int)} {R : List Nat} {x : Nat} {z : PyData} {zs : List Rat}
end
section
variable {K : PySem.W.Frag} {a : Addr} {S : List Addr} {σ : L2.St} {G H : Hp} {ta tb : TE} {i j : Int}
end
end LK
set_option Elab.async false
set_option linter.all false
set_option maxRecDepth 100000
set_option maxHeartbeats 2000000
/-! LK124: zip(x, y, z) walked, each a list or a tuple, of one length -/
namespace LK
open PySem PySem.Spec L2
open PyProof.Rows hiding St
section
variable {K : PySem.W.Frag} {a : Addr} {S : List Addr} {σ : L2.St} {G H : Hp} {te ta tb tc : TE} {tt : TT} {wi : TI} {n : Nat} {es fs gs : List PyData}
end
end LK
set_option Elab.async false
set_option linter.all false
set_option maxRecDepth 100000
set_option maxHeartbeats 1000000
set_option exponentiation.threshold 20000
/-! LK125: len(set(xs)) with repeats, min(xs), d.setdefault(k, []).append(x), d.values() of a dict that was just made -/
namespace LK
open PySem PySem.Spec L2
open PyProof.Rows hiding St
open LA (at')
/-! ### len(set(xs)) -/
/-! ### d.values() of a dict that was just made: it is locked for good -/
section
variable {K : PySem.W.Frag} {a : Addr} {S : List Addr} {σ : L2.St} {G H : Hp} {ta te : TE} {kvs : List (Key × V)} {es : List PyData} {d : Addr} {o : Obj} {ls : List Nat}
end
/-! ### what the components are made of -/
section
variable {H0 H1 H H' : Hp} {P : Addr} {ns : List Str} {ls : List Nat} {t : Nat}
end
end LK
set_option Elab.async false
set_option linter.all false
set_option maxRecDepth 100000
set_option maxHeartbeats 1000000
set_option exponentiation.threshold 20000
/-! LK126: components; divisions, parts (promises) -/
namespace LK
open PySem PySem.Spec L2
open PyProof.Rows hiding St
open LA (at' NF spanL)
section
variable {H0 Hb H H' : Hp} {P a : Addr} {S : List Addr} {ns : List Str} {ls : List Nat} {t : Nat}
end
/-! ### promises -/
section
variable (P : Program) (w : World) (K : PySem.W.Frag) (mg : Str → Option Value) (base : Heap) (C CS : Addr)
end
end LK
set_option Elab.async false
set_option linter.all false
set_option maxRecDepth 100000
set_option maxHeartbeats 1000000
set_option exponentiation.threshold 20000
/-! LK127: comprehensions over three at once; divisions, parts, mixtures (plain) -/
namespace LK
open PySem PySem.Spec L2
open PyProof.Rows hiding St
open LA (at' NF spanL)
section
variable {α : Type} {K : PySem.W.Frag} {a : Addr} {S : List Addr} {σ : L2.St} {G H : Hp} {ta tb tc te : TE} {wi : TI} {xs : List α}
end
/-! ### divisions -/
/-! ### zips by places -/
/-! ### a row is kept by a division when its labels are one at most -/
end LK
set_option Elab.async false
set_option linter.all false
set_option maxRecDepth 100000
set_option maxHeartbeats 1000000
set_option exponentiation.threshold 20000
/-! LK128: mixtures of solutions, their sizes; the search's steps -/
namespace LK
open PySem PySem.Spec L2
open PyProof.Rows hiding St
open LA (at' NF spanL row unitL vat qof pv0 qtot Ker dotW ansQ ansV)
/-! ### solutions over one denominator -/
section
variable {n : Nat} {rs F : List (List Int)} {zs us : List Rat} {ls : List Nat} {v : Nat}
end
/-! ### promises -/
section
variable {α : Type} {K : PySem.W.Frag} {a : Addr} {S : List Addr} {σ : L2.St} {G H : Hp} {ta te : TE} {xs : List α} {q : α → Bool} {Dn : Ends} {C CS p : Addr} {ns : List Str} {F : List (List Int)} {es : List PyData} {C1 : PyData → Prop} {E' : L2.St → XK}
end
end LK
set_option Elab.async false
set_option linter.all false
set_option maxRecDepth 100000
set_option maxHeartbeats 1000000
/-! LK129: a for loop in a generator's body -/
namespace LK
open PySem PySem.Spec L2 GenW
open PyProof.Rows hiding St
section
variable {M : Model} {A : Around} {R : GenEnd} {Y : Protocol} {n : Nat} {s₀ : Shared} {c : Code} {fs : List Frame} {s : Shared} {env : Env}
  {K : Flow → Sem PySem.Fin} {J : Value → Sem PySem.Fin} {gd : Bool → Bool} {lv : List Value → List Value}
end
section
variable {prog : Program} {w : World} {A : Around} {R : GenEnd} {Y : Protocol} {n : Nat} {s₀ : Shared} {fs : List Frame} {s : Shared} {env : Env}
end
end LK
set_option Elab.async false
set_option linter.all false
set_option maxRecDepth 100000
set_option maxHeartbeats 1000000
/-! LK130: a generator's body whose consumer is a comprehension [x for x, y in g if y]: what the consumer changes while the generator sleeps are its list at S and its names at C -/
namespace LK
open PySem PySem.Spec L2 GenW
open PyProof.Rows hiding St
/-! ### the protocol -/
section
variable {X : Cx} {st : Stmt} {rest : List Stmt}
/-! ### yield (x, y) -/
/-! ### for -/
end
end LK
set_option Elab.async false
set_option linter.all false
set_option maxRecDepth 100000
set_option maxHeartbeats 1000000
/-! LK131: the promise of a generator def that lets nothing out, for such a consumer -/
namespace LK
open PySem PySem.Spec L2 GenW
open PyProof.Rows hiding St
abbrev SpG2 := List V → Hp → (List (V × Bool) → Hp → Prop) → Prop
end LK
set_option Elab.async false
set_option linter.all false
set_option maxRecDepth 100000
set_option maxHeartbeats 1000000
/-! LK132: [x for x, y in g if y], g a generator that was just made -/
namespace LK
open PySem PySem.Spec L2 GenW
open PyProof.Rows hiding St
end LK
set_option Elab.async false
set_option linter.all false
set_option maxRecDepth 100000
set_option maxHeartbeats 1000000
/-! LK133: calls of generator defs; a generator's for over anything that is walked -/
namespace LK
open PySem PySem.Spec L2 GenW
open PyProof.Rows hiding St
section
variable {X : Cx} {k : Nat} {ps : List Str} {sp : SpG2} {x : Str} {p pos : Pos} {e : Expr} {es : List Expr} {t : TA}
end
section
variable {K : PySem.W.Frag} {a : Addr} {S : List Addr} {σ : L2.St} {G H : Hp} {wi : TI} {n : Nat} {X : Nat → PyData → Prop}
end
end LK
set_option Elab.async false
set_option linter.all false
set_option maxRecDepth 100000
set_option maxHeartbeats 1000000
set_option exponentiation.threshold 20000
/-! LK134: which settings are held: the promises of holding_steps and held -/
namespace LK
open PySem PySem.Spec L2
open PyProof.Rows hiding St
open LA (unitL spanL row)
/-! ### going through the settings -/
noncomputable def hR (n : Nat) (F : List (List Int)) (xs : List Nat) : List Nat := xs.foldl (fun R x => if x ∈ detL n F R then R else R ++ [x]) []
noncomputable def hF (n : Nat) (F : List (List Int)) (xs : List Nat) (i : Nat) : Bool := !decide (xs.getD i 0 ∈ detL n F (hR n F (xs.take i)))
section
variable {n : Nat} {F : List (List Int)} {xs : List Nat} {R : List Nat} {x i : Nat}
end
/-! ### promises -/
section
variable (P : Program) (w : World) (K : PySem.W.Frag) (mg : Str → Option Value) (base : Heap) (C CS : Addr)
end
section
variable {α : Type} {K : PySem.W.Frag} {a : Addr} {S : List Addr} {σ : L2.St} {G H : Hp} {ta te tb : TE} {tt : TT} {wi : TI} {xs : List α} {Q : VK} {C CS p : Addr} {ns : List Str} {F : List (List Int)} {R : List Nat} {d : PyData} {rs : List Row} {Dn : Ends}
end
end LK
set_option Elab.async false
set_option linter.all false
set_option maxRecDepth 100000
set_option maxHeartbeats 1000000
set_option exponentiation.threshold 20000
/-! LK135: the held ones are the strongest (plain law of k33) -/
namespace LK
open PySem PySem.Spec L2
open PyProof.Rows hiding St
open LA (at' pivL row spanL NF Red unitL FreeR)
section
variable {ns : List Str} {F : List (List Int)} {ss : List Row} {r : Row} {i k : Nat} {S : List Nat}
end
end LK
set_option Elab.async false
set_option linter.all false
set_option maxRecDepth 100000
set_option maxHeartbeats 1000000
set_option exponentiation.threshold 20000
/-! LK136: promises of k33's law: what is kept, what may be chosen -/
namespace LK
open PySem PySem.Spec L2
open PyProof.Rows hiding St
open LA (at' pivL row spanL NF Red unitL FreeR)
section
variable (P : Program) (w : World) (K : PySem.W.Frag) (mg : Str → Option Value) (base : Heap)
end
end LK
set_option Elab.async false
set_option linter.all false
set_option maxRecDepth 100000
set_option maxHeartbeats 1000000
set_option exponentiation.threshold 20000
/-! LK137: a drawn case with equations; repr == repr -/
namespace LK
open PySem PySem.Spec L2
open PyProof.Rows hiding St
open LA (at' pivL row spanL NF Red unitL FreeR)
section
variable {K : PySem.W.Frag} {a : Addr} {σ : L2.St} {G : Hp} {te tl tf : TE} {E : XK}
end
end LK
set_option Elab.async false
set_option linter.all false
set_option maxRecDepth 100000
set_option maxHeartbeats 1000000
set_option exponentiation.threshold 20000
/-! LK138: calls of held; list.index and in of settings; clear -/
namespace LK
open PySem PySem.Spec L2
open PyProof.Rows hiding St
open LA (at' pivL row spanL NF Red unitL FreeR)
section
variable {K : PySem.W.Frag} {a : Addr} {S : List Addr} {σ : L2.St} {G H : Hp} {ta tb te tl : TE} {Dn : Ends} {ns : List Str} {F : List (List Int)} {E : XK} {C CS p : Addr} {rs ss : List Row} {d : PyData}
end
end LK
set_option Elab.async false
set_option linter.all false
set_option maxRecDepth 100000
set_option maxHeartbeats 1000000
set_option exponentiation.threshold 20000
/-! LK139: what the law asks about what may be chosen -/
namespace LK
open PySem PySem.Spec L2
open PyProof.Rows hiding St
open LA (at' pivL row spanL NF Red unitL FreeR)
section
variable {K : PySem.W.Frag} {a : Addr} {σ : L2.St} {G : Hp} {ta tb tc : TE} {E : XK} {ns : List Str} {rs F : List (List Int)} {ts : List Row}
end
section
variable {K : PySem.W.Frag} {a : Addr} {S : List Addr} {σ : L2.St} {G H : Hp} {ta tb : TE} {C CS : Addr} {C2 : PyData → Prop} {Dn : Ends}
end
end LK
set_option Elab.async false
set_option linter.all false
set_option maxRecDepth 100000
set_option maxHeartbeats 1000000
set_option exponentiation.threshold 20000
/-! LK140: what is held, told by what is stronger (plain law of k36, k35) -/
namespace LK
open PySem PySem.Spec L2
open PyProof.Rows hiding St
open LA (at' pivL row spanL NF Red unitL FreeR)
section
variable {n : Nat} {F : List (List Int)} {R R' : List Nat} {x y : Nat}
end
section
variable {ns : List Str} {F : List (List Int)} {rs us : List Row} {r s x : Row}
/-! ### without one -/
end
end LK
set_option Elab.async false
set_option linter.all false
set_option maxRecDepth 100000
set_option maxHeartbeats 1000000
set_option exponentiation.threshold 20000
/-! LK141: drawn cases of any size; settings put into three heaps; promises of k36 -/
namespace LK
open PySem PySem.Spec L2
open PyProof.Rows hiding St
open LA (at' pivL row spanL NF Red unitL FreeR)
/-! ### three heaps -/
section
variable (P : Program) (w : World) (K : PySem.W.Frag) (mg : Str → Option Value) (base : Heap) (C CS : Addr)
end
section
variable {K : PySem.W.Frag} {a L L' : Addr} {T : List Addr} {H H' : Hp} {g : List Row} {r : Row} {v : V} {o : HO} {xs : List V}
end
section
variable {K : PySem.W.Frag} {a : Addr} {S : List Addr} {σ : L2.St} {G H : Hp} {te tb : TE} {Dn : Ends}
end
end LK
set_option Elab.async false
set_option linter.all false
set_option maxRecDepth 100000
set_option maxHeartbeats 1000000
set_option exponentiation.threshold 20000
/-! LK142: without one setting, as the law asks it -/
namespace LK
open PySem PySem.Spec L2
open PyProof.Rows hiding St
open LA (at' pivL row spanL NF Red unitL FreeR)
section
variable {ns : List Str} {F : List (List Int)} {ts us : List Row} {r z : Row}
end
end LK
set_option Elab.async false
set_option linter.all false
set_option maxRecDepth 100000
set_option maxHeartbeats 1000000
set_option exponentiation.threshold 20000
/-! LK143: the base, the values of all fields (plain) -/
namespace LK
open PySem PySem.Spec L2
open PyProof.Rows hiding St
open LA (at' pivL row spanL NF Red unitL FreeR qtot SmallQ)
/-! ### the base -/
section
variable {n : Nat} {F : List (List Int)} {R : List Nat} {i x : Nat}
end
section
variable {ns : List Str} {F rs : List (List Int)} {hs ts : List Row} {x : Nat} {R : List Nat} {zs : List Rat}
/-! ### expressions by the base -/
/-! ### values -/
end
end LK
set_option Elab.async false
set_option linter.all false
set_option maxRecDepth 100000
set_option maxHeartbeats 1000000
/-! LK144: the head by one run of the top in the kernel, its facts read off what the names reach (little is written out) -/
namespace LKH
open PySem PySem.Spec L2 LK
open PyProof.Rows hiding St
open He (ba eqO eqO_ok ga ma frG frG_in Fa)
open He5 (DefA fnA)
/-! ### what the module's names reach -/
def reachF (g : Addr → Option Obj) : Nat → List Addr → Nat → List Addr → List Addr
  | 0, _, _, acc => acc
  | n + 1, w, seen, acc => match w with
    | [] => acc
    | a :: w => match Nat.testBit seen a with
      | true => reachF g n w seen acc
      | false => match g a with
        | some o => HandSHeadRun.frNat (seen ||| (1 <<< a)) fun s => reachF g n (He.refsD o ++ w) s (a :: acc)
        | none => reachF g n w seen acc
def reachK (g : Addr → Option Obj) (n : Nat) : PySem.W.Frag := frG g (reachF g n [mainGlobals, cStatics] 0 [])
/-! ### the Hook -/
abbrev AlG : Type := Bool × List He.FnW
structure Fcts where
  fa : List Fa
  fn : List DefA
  bs : List (PySem.W.Frag → Bool)
def Fcts.obs (c : Fcts) (K : PySem.W.Frag) : AlG := ((c.fa.all fun f => f.ok K) && ((c.fn.all fun d => d.ok K) && c.bs.all fun b => b K), c.fn.map fun d => fnA K (d.at_ K))
def Fcts.val (c : Fcts) : AlG := (true, c.fn.map DefA.val)
def Fcts.Says (c : Fcts) (K : PySem.W.Frag) : Prop := c.obs K = c.val
def hookF (n : Nat) (c : Fcts) : PySem.W.Hook where
  α := AlG
  obs := fun s => c.obs (reachK s.heap.get? n)
  val := fun _ => c.val
  says := fun _ h => ∃ K : PySem.W.Frag, K.In h ∧ c.Says K
  of := fun _ _ e => ⟨_, frG_in, e⟩
  keeps := fun _ _ _ ⟨K, hK, e⟩ k => ⟨K, PySem.W.Frag.In.keeps hK k, e⟩
def obF (n : Nat) (c : Fcts) (s : PySem.W.SharedT) : AlG := c.obs (reachK (HandSHeadRun.getT s) n)
theorem obF_eq (n : Nat) (c : Fcts) (s : PySem.W.SharedT) : obF n c s = (hookF n c).obs s.abs := by
  have e : HandSHeadRun.getT s = s.abs.heap.get? := funext fun a => HandSHeadRun.getT_eq s a
  show c.obs (reachK (HandSHeadRun.getT s) n) = c.obs (reachK s.abs.heap.get? n)
  rw [e]
section
variable {c : Fcts} {K : PySem.W.Frag}
theorem Fcts.Says.two (h : c.Says K) : (c.fa.all fun f => f.ok K) = true ∧ (c.fn.all fun d => d.ok K) = true ∧ (c.bs.all fun b => b K) = true := by
  have e := congrArg (fun z : AlG => z.1) h
  obtain ⟨h1, h2⟩ := ba (show ((c.fa.all fun f => f.ok K) && ((c.fn.all fun d => d.ok K) && c.bs.all fun b => b K)) = true from e)
  exact ⟨h1, (ba h2).1, (ba h2).2⟩
theorem Fcts.Says.fact (h : c.Says K) (i : Nat) {f : Fa} (e : c.fa[i]? = some f := by rfl) : f.ok K = true := List.all_eq_true.mp h.two.1 f (List.mem_of_getElem? e)
theorem Fcts.Says.bool (h : c.Says K) (i : Nat) {b : PySem.W.Frag → Bool} (e : c.bs[i]? = some b := by rfl) : b K = true := List.all_eq_true.mp h.two.2.2 b (List.mem_of_getElem? e)
theorem Fcts.Says.def_ (h : c.Says K) (i : Nat) {d : DefA} (e : c.fn[i]? = some d := by rfl) : ∃ fd, FunD K d.name d.qual d.params d.body d.scope (d.dvs K) (d.kws K) (d.at_ K) fd := by
  have e1 : c.fn.map (fun d => fnA K (d.at_ K)) = c.fn.map DefA.val := congrArg (fun z : AlG => z.2) h
  have e2 : (c.fn.map fun d => fnA K (d.at_ K))[i]? = (c.fn.map DefA.val)[i]? := by rw [e1]
  rw [List.getElem?_map, List.getElem?_map, e] at e2
  exact DefA.funD (Option.some.inj e2) (List.all_eq_true.mp h.two.2.1 d (List.mem_of_getElem? e))
end
/-! ### kinds of facts -/
section
variable {K : PySem.W.Frag} {h : Heap} {mg : Str → Option Value} {C : Addr}
def occB (K : PySem.W.Frag) : Bool := eqO (PySem.W.specialIn K (.builtin "object.__class__") "__get__") (some (some (.builtin "getset_descriptor.__get__"))) && decide (PySem.W.takesIn K (.builtin "object.__class__") = some true)
def initB (K : PySem.W.Frag) (C : Addr) (t : String) : Bool := match PySem.W.findCls K (.ref C) (.type "type") "__init__" with
  | some (.val (.builtin n)) => decide (n = t)
  | _ => false
theorem init_of {t : String} (e : initB K C t = true) : PySem.W.findCls K (.ref C) (.type "type") "__init__" = some (.val (.builtin t)) := by
  unfold initB at e
  split at e
  · rename_i n q
    rw [of_decide_eq_true e] at q
    exact q
  · cases e
/-! ### exceptions -/
def chainB (K : PySem.W.Frag) (C : Addr) (chain : List Value) (newId : String) : Bool := match K.lookup C with
  | some ⟨.type t, _, .cls cd, sl⟩ => decide (t = "type") && (decide (cd.mro = .ref C :: chain) && (cd.hasDict && (!cd.hasDel && (match sl.toList with
    | [_, _, _, _, some (.builtin n), _] => decide (n = newId)
    | _ => false))))
  | _ => false
theorem chain_of {chain : List Value} {newId : String} (e : chainB K C chain newId = true) : ∃ nm q N bs sn sub ab col dd k0 k1 k2 k3 k5, K.lookup C = some (excClassObj nm q C N bs chain true sn sub ab col dd k0 k1 k2 k3 k5 newId) := by
  unfold chainB at e
  split at e
  · rename_i t dd cd sl q
    obtain ⟨h1, e⟩ := ba e
    obtain ⟨h2, e⟩ := ba e
    obtain ⟨h3, e⟩ := ba e
    obtain ⟨h4, h5⟩ := ba e
    obtain ⟨nm, bs, mro, N, qn, hdct, sn, sub, ab, col, hdel⟩ := cd
    have h1 := of_decide_eq_true h1
    have h2 := of_decide_eq_true h2
    dsimp only at h2 h3 h4
    subst h1 h2
    have h4 : hdel = false := by simpa using h4
    subst h3 h4
    obtain ⟨sl⟩ := sl
    split at h5
    · rename_i k0 k1 k2 k3 n k5 q2
      have h5 := of_decide_eq_true h5
      dsimp only at q2
      subst q2 h5
      exact ⟨nm, qn, N, bs, sn, sub, ab, col, dd, k0, k1, k2, k3, k5, q⟩
    · cases h5
  · cases e
def excB (K : PySem.W.Frag) (C : Addr) : Bool := eqO (PySem.W.findIn K (.ref C) "__setattr__") (some (some (.builtin "object.__setattr__"))) && (eqO (PySem.W.findIn K (.ref C) "__getattribute__") (some (some (.builtin "BaseException.__getattribute__"))) && (eqO (PySem.W.findIn K (.ref C) "__getattr__") (some none) && (decide (PySem.W.subIn K (.ref C) (.type "BaseException") = some true) && (decide (PySem.W.typeIn K (.ref C) = some (.type "type")) && (PySem.W.keepIn K (.ref C) && (PySem.W.hasDictIn K C && (eqO (PySem.W.findIn K (.ref C) "__class__") (some (some (.builtin "object.__class__"))) && (decide (PySem.W.mroIn K C (.type "object") = some true) && decide (PySem.W.subIn K (.ref C) (.ref C) = some true)))))))))
structure ExcF (K : PySem.W.Frag) (C : Addr) : Prop where
  sa : PySem.W.findIn K (.ref C) "__setattr__" = some (some (.builtin "object.__setattr__"))
  fl : XfC K C
  is : ExcC K C
  tp : PySem.W.typeIn K (.ref C) = some (.type "type")
  kp : PySem.W.keepIn K (.ref C) = true
  se : PySem.W.subIn K (.ref C) (.ref C) = some true
theorem excB_ok (ho : occB K = true) (e : excB K C = true) : ExcF K C := by
  obtain ⟨o1, o2⟩ := ba ho
  obtain ⟨h1, e⟩ := ba e
  obtain ⟨h2, e⟩ := ba e
  obtain ⟨h3, e⟩ := ba e
  obtain ⟨h4, e⟩ := ba e
  obtain ⟨h5, e⟩ := ba e
  obtain ⟨h6, e⟩ := ba e
  obtain ⟨h7, e⟩ := ba e
  obtain ⟨h8, e⟩ := ba e
  obtain ⟨h9, h10⟩ := ba e
  have ex := of_decide_eq_true h4
  exact ⟨eqO_ok h1, ⟨eqO_ok h2, eqO_ok h3, ex, h7⟩, ⟨eqO_ok h2, eqO_ok h3, ex, h7, eqO_ok h8, eqO_ok o1, of_decide_eq_true o2, of_decide_eq_true h9⟩, of_decide_eq_true h5, h6, of_decide_eq_true h10⟩
theorem xcb_of {B newId initId : String} {bt : List Value} {x : Str} (c : ExcF K C) (g : mg x = some (.ref C)) {chain : List Value} (t : TailOk B newId initId bt) (e : chainB K C chain newId = true) (hc : Over bt chain) : XCB B newId initId bt K mg x C := by
  obtain ⟨nm, q, N, bs, sn, sub, ab, col, dd, k0, k1, k2, k3, k5, hC⟩ := chain_of e
  exact ⟨g, ⟨t, ⟨nm, q, N, bs, chain, sn, sub, ab, col, dd, k0, k1, k2, k3, k5, hC, hc⟩, c.sa, c.fl.exC, c.tp, c.kp⟩, c.fl, c.is, c.se⟩
def xinB (K : PySem.W.Frag) (C : Addr) : Bool := eqO (PySem.W.findIn K (.ref C) "__init__") (some (some (.ref (ma K C "__init__")))) && decide (PySem.W.typeIn K (.ref (ma K C "__init__")) = some (.type "function"))
def rdB (K : PySem.W.Frag) (C : Addr) : Bool := PySem.W.readsIn K C (.type "type") && eqO (PySem.W.specialIn K (.ref C) "__getattribute__") (some (some (.builtin "type.__getattribute__")))
theorem rd_of (e : rdB K C = true) : ClX.CRead K C (.type "type") := ⟨(ba e).1, eqO_ok (ba e).2⟩
end
/-! ### the end -/
theorem walk_ofGE {l : PySem.W.OpenLaw} {n k : Nat} {q : Program} {loose : List Str} {XP : (Str → Option Value) → Heap → Prop} {YP : World → Heap → Prop} {d : DefRec} {CX : CXT} {x : Str}
    (hn : l.most = some n) (hn2 : n ≤ sizeLine) (hdf : d.params.defaults = []) (hr : Room k callerA)
    (F : ∀ (w : World) (mg : Str → Option Value) (fa : Addr) (h : Heap), YP w h → h.Ns mainGlobals mg → mg d.name = some (.ref fa) →
      ∃ (K : PySem.W.Frag) (fd : FuncData) (sp : Sp), K.In h ∧ (∀ (s : Shared) (u : Value), BindsTo s fd ⟨[u], []⟩ [(x, u)]) ∧
        (∀ (H : Hp) (a : Addr) (ns : List Int), ns.length ≤ n → Only H → SqL K H a (ns.map V.int) → sp [.ref a] H (fun v _ => v = .bl true) fun _ _ _ => False) ∧
        ∀ base : Heap, K.In base → base.Ns mainGlobals mg → FnG l.prog w K mg base CX k fa fd [x] sp)
    (hCX : ∀ (H : Hp) (s : Shared) (e : Value) (s' : Shared), CX [] H s (fun _ _ _ => False) e s' → False) :
    PySem.W.WalkO q loose XP YP l.row.toRowW d [] (fun f vs => PySem.call f vs) := by
  apply Att.attach_call hn hdf
  intro w s₀ s₁ mg mb fa o pm cd doc a vs ns G Y ho hd hcd hmg hobj hints hlen hg
  obtain ⟨K, fd, sp, KX, hb, hsp, hF⟩ := F w mg fa _ Y G.T.g hmg
  apply law_callG KX G.T.g G.T.b G.T.builtins G.T.nolimit hg hobj hints (Nat.le_trans hlen hn2) hr hF hb
  · intro H hO hS
    exact hsp H a ns hlen hO hS
  · intro H e s'
    exact hCX H s₁ e s'
end LKH
set_option Elab.async false
set_option linter.all false
set_option maxRecDepth 100000
set_option maxHeartbeats 1000000
set_option exponentiation.threshold 20000
/-! LK145: d.items() walked and the dict free again; max, dict(d), the fields of an instance, numbers of any size in lists or tuples, sums and products of the program -/
namespace LK
open PySem PySem.Spec L2
open PyProof.Rows hiding St
open LA (at' pivL row spanL NF Red unitL FreeR qtot SmallQ)
/-! ### a dict that was locked while one walked its items -/
/-! ### built-ins -/
section
variable {K : PySem.W.Frag} {a : Addr} {S : List Addr} {σ : L2.St} {G H : Hp} {te tb : TE} {Dn : Ends} {E : XK}
end
/-! ### numbers -/
section
variable {K : PySem.W.Frag} {a : Addr} {S : List Addr} {σ : L2.St} {G H : Hp} {ta tb : TE} {tr : TA} {d e : PyData} {l : List Rat} {E : L2.St → XK}
end
section
variable (P : Program) (w : World) (K : PySem.W.Frag) (mg : Str → Option Value) (base : Heap)
end
end LK
set_option Elab.async false
set_option linter.all false
set_option maxRecDepth 100000
set_option maxHeartbeats 1000000
set_option exponentiation.threshold 20000
/-! LK146: states: what one is, promises of its making and its methods -/
namespace LK
open PySem PySem.Spec L2
open PyProof.Rows hiding St
open LA (at' pivL row spanL NF Red unitL FreeR qtot SmallQ)
/-! ### making with a keyword -/
section
variable {X : Cx} {CX : CXT} {k n : Nat} {C : Addr} {ps ks : List Str} {sp : Sp} {E : L2.St → XK} {x : Str} {p pos : Pos} {e : Expr} {es : List Expr} {kws : List Keyword} {t tk : TA} {gV : List V → List V → List V}
end
/-! ### a state -/
section
variable (P : Program) (w : World) (K : PySem.W.Frag) (mg : Str → Option Value) (base : Heap) (C CP CS : Addr)
end
end LK
set_option Elab.async false
set_option linter.all false
set_option maxRecDepth 100000
set_option maxHeartbeats 1000000
set_option exponentiation.threshold 20000
/-! LK147: an instance that is being made; dicts asked; fields of a sheet that is told by an expression; one promise of the elimination for all -/
namespace LK
open PySem PySem.Spec L2
open PyProof.Rows hiding St
open LA (at' pivL row spanL NF Red unitL FreeR qtot SmallQ qof qrun)
/-! ### the elimination of rows of ints, by that of rows of numbers -/
/-! ### data do not look into instances -/
def SameD (H H' : Hp) : Prop := ∀ b o, H b = some o → (∀ C dx fs, o ≠ .ins C dx fs) → H' b = some o
section
variable {K : PySem.W.Frag} {H H' : Hp}
theorem sqT_sameD {a : Addr} {xs : List V} (e : SameD H H') (h : SqT K H a xs) : SqT K H' a xs := by
  rcases h with (h | ⟨o, h⟩) | h
  · exact .inl (.inl (e _ _ h (fun _ _ _ z => nomatch z)))
  · exact .inl (.inr ⟨o, e _ _ h (fun _ _ _ z => nomatch z)⟩)
  · exact .inr h
mutual
theorem D.sameD (e : SameD H H') : ∀ (d : PyData) (v : V), D K H v d → D K H' v d
  | .none, _, h => by
    cases h
    exact .non
  | .bool b, _, h => by
    cases h
    exact .bl b
  | .int i, _, h => by
    cases h
    exact .int i
  | .str x, _, h => by
    cases h
    exact .str x
  | .list ds, _, h => by
    cases h with
    | lst h1 h2 => exact .lst (e _ _ h1 (fun _ _ _ z => nomatch z)) (DA.sameD e ds _ h2)
  | .tuple ds, _, h => by
    cases h with
    | tup h1 h2 => exact .tup (sqT_sameD e h1) (DA.sameD e ds _ h2)
  | .dict ds, _, h => by
    cases h with
    | dic h1 h2 => exact .dic (e _ _ h1 (fun _ _ _ z => nomatch z)) (DK.sameD e ds _ h2)
theorem DA.sameD (e : SameD H H') : ∀ (ds : List PyData) (vs : List V), DA K H vs ds → DA K H' vs ds
  | [], _, h => by
    cases h
    exact .nil
  | d :: ds, _, h => by
    cases h with
    | cons h1 h2 => exact .cons (D.sameD e d _ h1) (DA.sameD e ds _ h2)
theorem DK.sameD (e : SameD H H') : ∀ (ds : List (PyData × PyData)) (vs : List (Key × V)), DK K H vs ds → DK K H' vs ds
  | [], _, h => by
    cases h
    exact .nil
  | (k, d) :: ds, _, h => by
    cases h with
    | cons h1 h2 => exact .cons (D.sameD e d _ h1) (DK.sameD e ds _ h2)
end
end
/-! ### an instance that is being made -/
section
variable {K : PySem.W.Frag} {a : Addr} {S : List Addr} {σ : L2.St} {G H H' H0 : Hp} {ta tb te : TE} {tr : TA} {Dn : Ends} {x C dx : Addr} {fs : List (Str × V)} {ds : List (Str × PyData)} {f : Str} {v : V} {d : PyData} {E : XK}
/-! ### dicts asked -/
end
section
variable {K : PySem.W.Frag} {a : Addr} {S : List Addr} {σ : L2.St} {G H : Hp} {ta te : TE} {tr : TA} {C CP CS p : Addr} {ns : List Str} {F : List (List Int)} {rs : List Row} {d : PyData} {E : XK} {E' : L2.St → XK} {Dn : Ends}
end
end LK
set_option Elab.async false
set_option linter.all false
set_option maxRecDepth 100000
set_option maxHeartbeats 1000000
set_option exponentiation.threshold 20000
/-! LK148: promises of held and base by their other names -/
namespace LK
open PySem PySem.Spec L2
open PyProof.Rows hiding St
section
variable (P : Program) (w : World) (K : PySem.W.Frag) (mg : Str → Option Value) (base : Heap) (C CS : Addr)
end
section
variable {n : Nat} {F : List (List Int)} {R : List Nat} {i : Nat}
end
end LK
set_option Elab.async false
set_option linter.all false
set_option maxRecDepth 100000
set_option maxHeartbeats 1000000
set_option exponentiation.threshold 20000
/-! LK149: numbers while a dict is locked -/
namespace LK
open PySem PySem.Spec L2
open PyProof.Rows hiding St
section
variable {K : PySem.W.Frag} {G G' : Hp}
end
section
variable {K : PySem.W.Frag} {a : Addr} {S : List Addr} {σ : L2.St} {G H : Hp} {ta te : TE} {es ws : List (Str × PyData)} {E : XK} {d2 : Addr} {kvs : List (Key × V)}
end
/-! ### f(*e), f a def with *args -/
end LK
set_option Elab.async false
set_option linter.all false
set_option maxRecDepth 100000
set_option maxHeartbeats 1000000
set_option exponentiation.threshold 20000
/-! LK150: what a state holds (plain) -/
namespace LK
open PySem PySem.Spec L2
open PyProof.Rows hiding St
open LA (at' pivL row spanL NF Red unitL FreeR qtot SmallQ)
section
variable {ns : List Str} {rs F : List (List Int)} {ts hs : List Row} {ck : Int} {x p : Nat} {zs : List Rat} {R : List Nat}
/-! ### the values given to the base -/
/-! ### the settings by their fields -/
end
end LK
set_option Elab.async false
set_option linter.all false
set_option maxRecDepth 100000
set_option maxHeartbeats 1000000
set_option exponentiation.threshold 20000
/-! LK151: what the making of a state asks -/
namespace LK
open PySem PySem.Spec L2
open PyProof.Rows hiding St
open LA (at' pivL row spanL NF Red unitL FreeR qtot SmallQ)
section
variable {K : PySem.W.Frag} {a : Addr} {S : List Addr} {σ : L2.St} {G G2 H H' H0 : Hp} {ta tb te : TE} {tr : TA} {Dn : Ends} {x C dx : Addr} {fs : List (Str × V)} {ds : List (Str × PyData)} {f : Str} {v : V} {d : PyData} {E : XK} {d2 : Addr} {kvs : List (Key × V)} {es ws : List (Str × PyData)}
end
section
variable {K : PySem.W.Frag} {a : Addr} {S : List Addr} {σ : L2.St} {G H : Hp} {tt : TT} {tk tv : TE} {wi : TI} {n : Nat} {X : Nat → PyData → Prop} {Dn : Ends}
end
section
variable {K : PySem.W.Frag} {a : Addr} {S : List Addr} {σ : L2.St} {G H : Hp} {ta tb te : TE} {tr : TA} {C CP CS C1 C2 p : Addr} {ns : List Str} {rs F : List (List Int)} {hs : List Row} {R : List Nat} {x : Nat} {d : PyData}
end
end LK
set_option Elab.async false
set_option linter.all false
set_option maxRecDepth 100000
set_option maxHeartbeats 1000000
set_option exponentiation.threshold 20000
/-! LK152: methods of a state -/
namespace LK
open PySem PySem.Spec L2
open PyProof.Rows hiding St
open LA (at' pivL row spanL NF Red unitL FreeR qtot SmallQ)
/-! ### sizes -/
/-! ### the fields of a state -/
section
variable {K : PySem.W.Frag} {a : Addr} {S : List Addr} {σ : L2.St} {G H : Hp} {ta tb te : TE} {tr : TA} {C CP CS q p : Addr} {ns : List Str} {F : List (List Int)} {hs : List Row} {ck : Int} {f : Str} {d : PyData} {E E' : L2.St → XK} {Dn : Ends}
end
/-! ### promises -/
abbrev PreSt := List Str → List (List Int) → List Row → Int → List PyData → Prop
section
variable {K : PySem.W.Frag} {C CP CS : Addr} {pre : PreSt} {vs : List V} {H : Hp} {Q : VK} {E : XK} {n : Nat}
end
section
variable (P : Program) (w : World) (K : PySem.W.Frag) (mg : Str → Option Value) (base : Heap) (C CP CS : Addr)
end
section
variable {K : PySem.W.Frag} {a : Addr} {S : List Addr} {σ : L2.St} {G H : Hp} {ta tb te : TE} {tr : TA} {ns : List Str} {x : Nat} {es : List (Str × PyData)} {Q : VK} {Dn : Ends}
end
end LK
set_option Elab.async false
set_option linter.all false
set_option maxRecDepth 100000
set_option maxHeartbeats 1000000
set_option exponentiation.threshold 20000
/-! LK153: the text of a state; sizes of what a state tells -/
namespace LK
open PySem PySem.Spec L2
open PyProof.Rows hiding St
open LA (at' pivL row spanL NF Red unitL FreeR qtot SmallQ)
section
variable {ns : List Str} {rs F : List (List Int)} {hs : List Row} {ck : Int} {x : Nat}
end
section
variable {K : PySem.W.Frag} {a : Addr} {S : List Addr} {σ : L2.St} {G H : Hp} {ta tb te : TE} {B : List Nat} {ns : List Str} {ck : Int}
end
end LK
set_option Elab.async false
set_option linter.all false
set_option maxRecDepth 100000
set_option maxHeartbeats 1000000
set_option exponentiation.threshold 20000
/-! LK154: the law's own base and values -/
namespace LK
open PySem PySem.Spec L2
open PyProof.Rows hiding St
open LA (at' pivL row spanL NF Red unitL FreeR qtot SmallQ permL ordO outO solvedR)
section
variable {ns : List Str} {rs F : List (List Int)} {hs : List Row} {ck : Int} {x : Nat}
end
/-! ### promises -/
section
variable (P : Program) (w : World) (K : PySem.W.Frag) (mg : Str → Option Value) (base : Heap)
end
section
variable {K : PySem.W.Frag} {a : Addr} {S : List Addr} {σ : L2.St} {G H : Hp} {ta tb tc te : TE} {E : XK} {ns : List Str} {rs F : List (List Int)} {hs : List Row} {ck : Int} {x : Nat} {B : List Nat} {Dn : Ends} {d : PyData}
end
end LK
set_option Elab.async false
set_option linter.all false
set_option maxRecDepth 100000
set_option maxHeartbeats 1000000
set_option exponentiation.threshold 20000
/-! LK155: drawn scenes of any size; dicts of pairs -/
namespace LK
open PySem PySem.Spec L2
open PyProof.Rows hiding St
/-! ### dict(pairs) -/
section
variable {K : PySem.W.Frag} {a : Addr} {S : List Addr} {σ : L2.St} {G H : Hp} {te : TE} {es : List (Str × PyData)}
end
end LK
set_option Elab.async false
set_option linter.all false
set_option maxRecDepth 100000
set_option maxHeartbeats 1000000
set_option exponentiation.threshold 20000
/-! LK156: dict(zip(keys, values)) -/
namespace LK
open PySem PySem.Spec L2
open PyProof.Rows hiding St
section
variable {K : PySem.W.Frag} {a : Addr} {σ : L2.St} {G : Hp} {ta tb : TE} {ns : List Str} {es : List PyData}
end
end LK
set_option Elab.async false
set_option linter.all false
set_option maxRecDepth 100000
set_option maxHeartbeats 1000000
set_option exponentiation.threshold 20000
/-! LK157: what the law of states asks of one -/
namespace LK
open PySem PySem.Spec L2
open PyProof.Rows hiding St
open LA (at' pivL row spanL NF Red unitL FreeR qtot SmallQ Lead)
/-! ### the base has as many fields as there is freedom -/
section
variable {ns : List Str} {rs F : List (List Int)} {hs : List Row} {ck : Int} {x : Nat}
/-! ### sizes -/
end
/-! ### promises -/
section
variable (P : Program) (w : World) (K : PySem.W.Frag) (mg : Str → Option Value) (base : Heap) (C CP CS : Addr)
end
section
variable {K : PySem.W.Frag} {a : Addr} {S : List Addr} {σ : L2.St} {G H : Hp} {ta tb tc te t1 t2 t3 : TE} {tr : TA} {E : XK} {E' : L2.St → XK} {ns : List Str} {rs F : List (List Int)} {hs : List Row} {ck : Int} {x : Nat} {B : List Nat} {zs : List Rat} {Dn : Ends} {d d1 d2 : PyData} {C CP CS q : Addr} {es : List (Str × PyData)}
end
end LK
set_option Elab.async false
set_option linter.all false
set_option maxRecDepth 100000
set_option maxHeartbeats 1000000
set_option exponentiation.threshold 20000
/-! LK158: what a list holds, changed -/
namespace LK
open PySem PySem.Spec L2
open PyProof.Rows hiding St
section
variable {K : PySem.W.Frag} {a : Addr} {S : List Addr} {σ : L2.St} {G H : Hp} {te : TE} {tr : TA} {Dn : Ends} {ns : List Str} {F : List (List Int)} {hs : List Row} {ck : Int} {C CP CS q : Addr} {es : List (Str × PyData)} {E' : L2.St → XK}
end
end LK
set_option Elab.async false
set_option linter.all false
set_option maxRecDepth 100000
set_option maxHeartbeats 1000000
set_option exponentiation.threshold 20000
/-! LK159: what is shown of a state; a state that is made -/
namespace LK
open PySem PySem.Spec L2
open PyProof.Rows hiding St
open LA (at' pivL row spanL NF Red unitL FreeR qtot SmallQ NRok)
section
variable {K : PySem.W.Frag} {a : Addr} {S : List Addr} {σ : L2.St} {G H : Hp} {ta tb te tk : TE} {tr : TA} {Dn : Ends} {ns : List Str} {rs F : List (List Int)} {hs ts : List Row} {ck : Int} {C CP CS q p : Addr} {es : List (Str × PyData)} {E E' : L2.St → XK} {d e : PyData} {Cn : PyData → Prop}
end
end LK
set_option Elab.async false
set_option linter.all false
set_option maxRecDepth 100000
set_option maxHeartbeats 1000000
set_option exponentiation.threshold 20000
/-! LK160: the list of what a state tells -/
namespace LK
open PySem PySem.Spec L2
open PyProof.Rows hiding St
open LA (at' pivL row spanL NF Red unitL FreeR qtot SmallQ NRok)
section
variable {K : PySem.W.Frag} {a : Addr} {S : List Addr} {σ : L2.St} {G H : Hp} {Dn : Ends} {ns : List Str} {rs F : List (List Int)} {hs : List Row} {ck : Int} {C CP CS q p : Addr} {E E' E'' : L2.St → XK}
end
/-! ### the law's own -/
end LK
namespace LK
open PySem PySem.Spec L2
open PyProof.Rows hiding St
end LK
set_option Elab.async false
set_option linter.all false
set_option maxRecDepth 100000
set_option maxHeartbeats 1000000
set_option exponentiation.threshold 20000
/-! LK161: the call of the law's state_right -/
namespace LK
open PySem PySem.Spec L2
open PyProof.Rows hiding St
open LA (spanL NF NRok)
end LK
set_option Elab.async false
set_option linter.all false
set_option maxRecDepth 100000
set_option maxHeartbeats 1000000
/-! LK162: the head by several runs, each reading off a part of the facts -/
namespace LKH
open PySem PySem.Spec L2 LK
open PyProof.Rows hiding St
open He (ba eqO eqO_ok ga ma frG frG_in Fa)
open He5 (DefA fnA)
end LKH
set_option Elab.async false
set_option linter.all false
set_option maxRecDepth 100000
set_option maxHeartbeats 1000000
set_option exponentiation.threshold 20000
/-! LK248: list(zip(names, values)) -/
namespace LK
open PySem PySem.Spec L2
open PyProof.Rows hiding St
open PySem.W (KdxG)
theorem zip_no_len : typeLookup (.type "zip") "__len__" = pure none := by rw [typeLookup_type, builtinLookup_eq_fast]; kernel_rfl
theorem zip_no_hint : typeLookup (.type "zip") "__length_hint__" = pure none := by rw [typeLookup_type, builtinLookup_eq_fast]; kernel_rfl

def ZSt (h : Heap) (z TI TO i1 i2 l1 l2 S : Addr) (xs ys : Array Value) (i : Nat) : Prop :=
  IsPair h TI (.ref i1) (.ref i2) ∧ h.IsListIter i1 l1 i ∧ h.IsListIter i2 l2 i ∧ h.IsList l1 xs ∧ h.IsList l2 ys ∧
    ((IsZip h z TI TO .none ∧ ∃ a b, IsPair h TO a b) ∨ ∃ T f oT, IsZipHeld h z TI TO T f ∧ h.get? T = some oT ∧ T ≠ z ∧ T ≠ i1 ∧ T ≠ i2 ∧ T ≠ S)
structure ZLow (S z TI TO i1 i2 l1 l2 : Addr) : Prop where
  z : z < S
  TI : TI < S
  TO : TO < S
  i1 : i1 < S
  i2 : i2 < S
  l1 : l1 < S
  l2 : l2 < S
theorem ZSt.keep {h h' : Heap} {z TI TO i1 i2 l1 l2 S : Addr} {xs ys : Array Value} {i : Nat} (L : ZLow S z TI TO i1 i2 l1 l2) (x : ZSt h z TI TO i1 i2 l1 l2 S xs ys i) (hk : ∀ b o, b ≠ S → h.get? b = some o → h'.get? b = some o) : ZSt h' z TI TO i1 i2 l1 l2 S xs ys i := by
  obtain ⟨hTI, h1, h2, hl1, hl2, hz⟩ := x
  refine ⟨hk _ _ (Nat.ne_of_lt L.TI) hTI, h1.at fun o e => hk _ o (Nat.ne_of_lt L.i1) e, h2.at fun o e => hk _ o (Nat.ne_of_lt L.i2) e, hl1.at fun o e => hk _ o (Nat.ne_of_lt L.l1) e, hl2.at fun o e => hk _ o (Nat.ne_of_lt L.l2) e, ?_⟩
  rcases hz with ⟨hz, a, b, hTO⟩ | ⟨T, f, oT, hz, hT, r1, r2, r3, r4⟩
  · exact .inl ⟨hk _ _ (Nat.ne_of_lt L.z) hz, a, b, hk _ _ (Nat.ne_of_lt L.TO) hTO⟩
  · exact .inr ⟨T, f, oT, hk _ _ (Nat.ne_of_lt L.z) hz, hk _ _ r4 hT, r1, r2, r3, r4⟩
section
variable {prog : Program} {w : World} {A : Around} {E : Value → Shared → Prop} {s : Shared} {z TI TO i1 i2 l1 l2 S : Addr} {xs ys : Array Value} {i : Nat}
theorem zst_item {x y : Value} {Q : Option Value → Shared → Prop} (D : ZipApart z TI TO i1 i2 l1 l2) (st : ZSt s.heap z TI TO i1 i2 l1 l2 S xs ys i) (hS : S < s.heap.objs.size) (ex : xs[i]? = some x) (ey : ys[i]? = some y)
    (hQ : ∀ h', ZSt h' z TI TO i1 i2 l1 l2 S xs ys (i + 1) → IsPair h' s.heap.objs.size x y → h'.objs.size = s.heap.objs.size + 1 → (∀ b o, b ∉ [z, TO, i1, i2] → s.heap.get? b = some o → h'.get? b = some o) → Q (some (.ref s.heap.objs.size)) { s with heap := h' }) :
    wpAny (model prog w) A (pyNext (.ref z)) Q E s := by
  obtain ⟨hTI, h1, h2, hl1, hl2, hz⟩ := st
  have lt : ∀ {c o}, s.heap.get? c = some o → s.heap.objs.size ≠ c := fun e => Nat.ne_of_gt (Heap.lt_size e)
  have n1 : s.heap.objs.size ≠ i1 := let ⟨_, e, _⟩ := h1; lt e
  have n2 : s.heap.objs.size ≠ i2 := let ⟨_, e, _⟩ := h2; lt e
  rcases hz with ⟨hz, a, b, hTO⟩ | ⟨T, f, oT, hz, hT, r1, r2, r3, r4⟩
  · refine wpAny_pyNext_zip_item D hz hTI hTO h1 h2 hl1 hl2 ex ey fun h' a1 a2 a3 a4 a5 a6 hk => ?_
    exact hQ h' ⟨hk _ _ D.TIz D.TITO D.TIi1 D.TIi2 hTI, a3, a4, hl1.at fun o e => hk _ o D.l1z D.l1TO D.l1i1 D.l1i2 e, hl2.at fun o e => hk _ o D.l2z D.l2TO D.l2i1 D.l2i2 e,
        .inr ⟨s.heap.objs.size, false, _, a1, a5, lt hz, n1, n2, Nat.ne_of_gt hS⟩⟩ a5 a6
      fun c o hc e => hk c o (fun x => hc (by simp [x])) (fun x => hc (by simp [x])) (fun x => hc (by simp [x])) (fun x => hc (by simp [x])) e
  · refine wpAny_pyNext_zip_item_held D hz hT hTI h1 h2 hl1 hl2 ex ey fun h' a1 a3 a4 a5 a6 hk => ?_
    exact hQ h' ⟨hk _ _ D.TIz D.TIi1 D.TIi2 hTI, a3, a4, hl1.at fun o e => hk _ o D.l1z D.l1i1 D.l1i2 e, hl2.at fun o e => hk _ o D.l2z D.l2i1 D.l2i2 e,
        .inr ⟨T, true, oT, a1, hk _ _ r1 r2 r3 hT, r1, r2, r3, r4⟩⟩ a5 a6
      fun c o hc e => hk c o (fun x => hc (by simp [x])) (fun x => hc (by simp [x])) (fun x => hc (by simp [x])) e
theorem zst_done {Q : Option Value → Shared → Prop} (hh : A.handled = none) (D : ZipApart z TI TO i1 i2 l1 l2) (st : ZSt s.heap z TI TO i1 i2 l1 l2 S xs ys i) (hend : xs[i]? = none ∨ ys[i]? = none)
    (hQ : ∀ h', (∀ b o, b ∉ [z, TO, i1, i2] → s.heap.get? b = some o → h'.get? b = some o) → Q none { s with heap := h' }) : wpAny (model prog w) A (pyNext (.ref z)) Q E s := by
  obtain ⟨hTI, h1, h2, hl1, hl2, hz⟩ := st
  rcases hz with ⟨hz, a, b, hTO⟩ | ⟨T, f, oT, hz, hT, r1, r2, r3, r4⟩
  · exact wpAny_pyNext_zip_end hh D hz hTI hTO h1 h2 hl1 hl2 hend fun h' hk => hQ h' fun c o hc e => hk c o (fun x => hc (by simp [x])) (fun x => hc (by simp [x])) (fun x => hc (by simp [x])) (fun x => hc (by simp [x])) e
  · exact wpAny_pyNext_zip_end_held hh D hz hT hTI h1 h2 hl1 hl2 hend fun h' hk => hQ h' fun c o hc e => hk c o (fun x => hc (by simp [x])) (fun x => hc (by simp [x])) (fun x => hc (by simp [x])) e
end
section
variable {prog : Program} {w : World} {K : Type} [DecidableEq K] {knd : KeyKind prog w K} {A : Around} {s : Shared} {R : Result → Shared → Prop} {kvs : List (K × Value)} {z TI TO i1 i2 l1 l2 S : Addr} {xs ys : Array Value}
end
section
variable {prog : Program} {w : World} {K : Type} [DecidableEq K] {knd : KeyKind prog w K} {A : Around} {E : Value → Shared → Prop} {s : Shared} {kvs : List (K × Value)} {z TI TO i1 i2 l1 l2 : Addr} {xs ys : Array Value}
end
end LK
set_option Elab.async false
set_option linter.all false
set_option maxRecDepth 100000
set_option maxHeartbeats 4000000
/-! LK251: own exceptions as values: made by position or by keyword, kept in the heap, asked -/
namespace PySem.HandSPX
open PySem PySem.W
section
variable {M : Model} {A : Around} {E : Value → Shared → Prop} {h : Heap} {g : Array GenState} {d : Drawn} {t : Nat} {os : OsState}
variable {nm q : Str} {C N : Addr} {bs bm bmB : List Value} {hdct : Bool} {sn : List Str} {sub : List Value} {ab : Bool} {col : Option Bool} {dd : Option Addr} {k0 k1 k2 k3 k5 : Option Value} {B newId initId : String} {kws : List (Str × Value)}
theorem check_new_ownK (F : ExcBaseFacts B newId initId bmB) (hT : ∀ X : String, bm.contains (.type X) = bmB.contains (.type X)) {rest : List Value} {Q : Unit → Shared → Prop}
    (hC : h.get? C = some (excClassObj nm q C N bs bm hdct sn sub ab col dd k0 k1 k2 k3 k5 newId)) (hq : Q () ⟨h, g, d, t, os⟩) : wpAny M A (checkBuiltinCall newId ⟨.ref C :: rest, kws⟩) Q E ⟨h, g, d, t, os⟩ := by
  have hcont : (Value.ref C :: bm).contains (.type B) = true := by rw [List.contains_cons, hT, F.hasB, Bool.or_true]
  have hstar := F.noStar
  simp only [checkBuiltinCall, F.newKind, F.newSplit, F.newRow]
  repeat (first | refine wpAny_loadPart_at hC ?_ | (refine wpAny_isSubtype_exc hC ?_; rw [hcont]) | refine wpAny_staticBase_exc hC ?_ | refine wpAny_madeBy_exc hC ?_ | simp only [bne_self_eq_false, Bool.false_eq_true, if_false] | wp_step)
  exact hq
end
section
variable {prog : Program} {w : World} {A : Around} {E : Value → Shared → Prop} {R : Result → Shared → Prop} {h : Heap} {g : Array GenState} {d : Drawn} {t : Nat} {os : OsState}
variable {nm q : Str} {C N : Addr} {bs bm bmB : List Value} {hdct : Bool} {sn : List Str} {sub : List Value} {ab : Bool} {col : Option Bool} {dd : Option Addr} {k0 k1 k2 k3 k5 : Option Value} {B newId initId : String} {kws : List (Str × Value)}
theorem new_ownK (F : ExcBaseFacts B newId initId bmB) (hT : ∀ X : String, bm.contains (.type X) = bmB.contains (.type X)) {rest : List Value}
    (hC : h.get? C = some (excClassObj nm q C N bs bm hdct sn sub ab col dd k0 k1 k2 k3 k5 newId))
    (hq : R (.ok (.ret (.ref (h.objs.size + 1)))) ⟨(h.push { cls := .type "tuple", data := .seq rest.toArray }).push
      { cls := .ref C, data := .fields #[.ref h.objs.size, .none, .none, .none, .bool false, .none] }, g, d, t, os⟩) (hrest : rest.length ≤ sizeLine) :
    codeAny (model prog w) A (.builtin newId ⟨.ref C :: rest, kws⟩) R ⟨h, g, d, t, os⟩ := by
  have hends := F.ends
  have hcB : (Value.ref C :: bm).contains (.type B) = true := by rw [List.contains_cons, hT, F.hasB, Bool.or_true]
  have hcA : (Value.ref C :: bm).contains (.type "AttributeError") = false := by rw [List.contains_cons, hT, F.noAttr]; rfl
  have hcN : (Value.ref C :: bm).contains (.type "NameError") = false := by rw [List.contains_cons, hT, F.noName]; rfl
  refine codeAny_builtinAt F.entry ?_
  unfold Builtin.«BaseException.__new__»
  refine wpAt_bind ?_
  show wpAt _ _ _ (stack >>= _) _ _ _
  refine wpAt_bind (wpAt_stack fun p below => wpAt_of_wpAny ?_)
  wp_walk
  refine wpAt_of_wpAny ?_
  rw [F.owner]
  repeat (first | with_reducible refine wpAny_madeHere_exc F.canon hC ?_ | with_reducible refine wpAny_loadPart_at hC ?_ | (with_reducible refine wpAny_isSubtype_exc hC ?_; first | rw [hcB] | rw [hcA] | rw [hcN]) | wp_step)
  show R _ _
  rw [Heap.size_push]
  exact hq
theorem type_call_ownK (F : ExcBaseFacts B newId initId bmB) (hT : ∀ X : String, bm.contains (.type X) = bmB.contains (.type X)) {rest : List Value} {fI : Addr} {Q : Fin → Shared → Prop}
    (hC : h.get? C = some (excClassObj nm q C N bs bm hdct sn sub ab col dd k0 k1 k2 k3 k5 newId))
    (hi : W.Looks (model prog w) h (typeLookup (.ref C) "__init__") (some (.ref fI))) (hb : ∀ self, W.Looks (model prog w) h (bindSpecial (.ref fI) self) (.ref fI, [self])) (hrest : rest.length ≤ sizeLine)
    (hq : codeAny (model prog w) A (.call (.ref fI) ⟨.ref (h.objs.size + 1) :: rest, kws⟩)
      (fun r s' => match r with | .ok (.ret v) => v = .none ∧ Q (.done (.ret (.ref (h.objs.size + 1)))) s' | .ok _ => False | .error e => E e s')
      ⟨(h.push (W.kdv_tup rest)).push (excO C h.objs.size), g, d, t, os⟩) :
    wpAny (model prog w) A (Builtin.«type.__call__» ⟨.ref C :: rest, kws⟩) Q E ⟨h, g, d, t, os⟩ := by
  repeat (first | with_reducible refine wpAny_loadPart_at hC ?_ | with_reducible refine wpAny_madeBy_exc hC ?_ | wp_step)
  refine codeAny_call_builtin_code (Code.quiet_builtin _ F.quiet) (check_new_ownK F hT hC ?_)
  refine new_ownK F hT hC ?_ hrest
  show wpAny _ _ _ _ _ _
  have k : ∀ b o, h.get? b = some o → ((h.push (W.kdv_tup rest)).push (excO C h.objs.size)).get? b = some o := fun b o e => Heap.get?_push_of_some _ (Heap.get?_push_of_some _ e)
  have hC₁ := k _ _ hC
  have hget : ((h.push (W.kdv_tup rest)).push (excO C h.objs.size)).get? (h.objs.size + 1) = some (excO C h.objs.size) := by heap_get
  have hcC : (Value.ref C :: bm).contains (.ref C) = true := by simp
  have i1 := hi.keeps k
  have b1 := (hb (.ref (h.objs.size + 1))).keeps k
  unfold isInstance
  repeat (first | with_reducible refine wpAny_loadPart_at hget ?_ | (with_reducible refine wpAny_isSubtype_exc hC₁ ?_; rw [hcC]) | wp_step)
  show wpAny _ _ (typeLookup (.ref C) _) _ _ _
  refine i1.at ?_
  refine wpAny_holding (wpAny_bind (b1.at ?_))
  refine wpAny_bind (wpAny_call (codeAny_mono hq fun r s' z => ?_))
  rcases r with e | (v | _ | _ | _) <;> first | exact z | exact z.elim | skip
  obtain ⟨rfl, z⟩ := z
  first
    | exact wpAny_pure (wpAny_pure z)
    | (wp_walk; exact z)
theorem call_ownK (F : ExcBaseFacts B newId initId bmB) (hT : ∀ X : String, bm.contains (.type X) = bmB.contains (.type X)) {rest : List Value} {fI : Addr}
    (hC : h.get? C = some (excClassObj nm q C N bs bm hdct sn sub ab col dd k0 k1 k2 k3 k5 newId))
    (hi : W.Looks (model prog w) h (typeLookup (.ref C) "__init__") (some (.ref fI))) (hb : ∀ self, W.Looks (model prog w) h (bindSpecial (.ref fI) self) (.ref fI, [self])) (hrest : rest.length ≤ sizeLine)
    (hq : codeAny (model prog w) (A.under (.builtin "type.__call__" ⟨.ref C :: rest, kws⟩)) (.call (.ref fI) ⟨.ref (h.objs.size + 1) :: rest, kws⟩) (W.InitBack (h.objs.size + 1) R)
      ⟨(h.push (W.kdv_tup rest)).push (excO C h.objs.size), g, d, t, os⟩) :
    codeAny (model prog w) A (.call (.ref C) ⟨rest, kws⟩) R ⟨h, g, d, t, os⟩ := by
  have f1 := tc_lookup
  have f2 := tc_bind (.ref C)
  have hTy : (⟨h, g, d, t, os⟩ : Shared).TypeIs (.ref C) "type" := ⟨_, hC, rfl⟩
  refine codeAny_of_tree ?_
  show wpAny _ _ (callAny (.ref C) _) _ _ _
  repeat (any_goals (first | assumption | with_reducible refine wpAny_loadPart_at hC ?_ | wp_step))
  refine ⟨rfl, ?_⟩
  refine codeAny_call_builtin_at (Code.quiet_builtin _ (by decide +kernel)) entry_typeCall (wpAny_check_type_call_sub hC (type_call_ownK F hT hC hi hb hrest ?_))
  refine codeAny_mono hq fun r s' z => ?_
  rcases r with e | (v | _ | _ | _) <;> exact z
end
end PySem.HandSPX
set_option Elab.async false
set_option linter.all false
set_option maxRecDepth 100000
set_option maxHeartbeats 4000000
/-! LK252: own exceptions as values: making, isinstance, fields -/
namespace LK
open PySem PySem.Spec L2
open PyProof.Rows hiding St
def tMkX (C : Addr) (n m : Nat) (sp : Sp) (gV : List V → List V → List V) (t tk : TA) : TE := fun σ H Q => t σ H fun vs H1 => tk σ H1 fun zs H2 => vs.length = n ∧ zs.length = m ∧ ∀ a, H2 a = none → sp (gV (.ref a :: vs) zs) (upd H2 a (exo a C none)) (fun v H3 => v = .non ∧ Q (.ref a) H3) fun _ _ _ => False
structure XV (B newId initId : String) (bt : List Value) (P : Program) (w : World) (K : PySem.W.Frag) (mg : Str → Option Value) (base : Heap) (x : Str) (C : Addr) (n : Nat) (ps ks : List Str) (gV : List V → List V → List V) (sp : Sp) : Prop where
  g : mg x = some (.ref C)
  ox : OexB B newId initId bt K C
  init : ∃ (fI : Addr) (fd : FuncData) (gU : List Value → List Value → List Value), PySem.W.findIn K (.ref C) "__init__" = some (some (.ref fI)) ∧ PySem.W.typeIn K (.ref fI) = some (.type "function") ∧ FnOk P w K mg base CX0 1 fI fd ps sp ∧ KBn K fd ps (n + 1) ks gU gV
theorem KBn.pos {K : PySem.W.Frag} {fd : FuncData} {ps : List Str} {n : Nat} (hb : Binds K fd ps []) (hn : n = ps.length) : KBn K fd ps n [] (fun us _ => us) (fun vs _ => vs) where
  to := fun s us ws X l1 l2 => by
    have := hb s us X (by rw [List.append_nil]; omega)
    rwa [List.append_nil] at this
  rel := fun r _ => r
section
variable {X : Cx} {n : Nat} {C : Addr} {ps ks : List Str} {sp : Sp} {x : Str} {p pos : Pos} {e : Expr} {es : List Expr} {kws : List Keyword} {t tk : TA} {gV : List V → List V → List V} {B newId initId : String} {bt : List Value}
theorem run_mkX {pins : List (Addr × Obj)} {σ : L2.St} {H : Hp} {s : Shared} {Q : VK} {us ws : List Value} {vs zs : List V} (R : XV B newId initId bt X.prog X.w X.K X.mg X.base x C n ps ks gV sp) (hr : Room 2 X.A) (I : Inv X pins σ H s) (r : Vals vs us) (rz : Vals zs ws) (l1 : vs.length = n) (l2 : zs.length = ks.length)
    (h : ∀ a, H a = none → sp (gV (.ref a :: vs) zs) (upd H a (exo a C none)) (fun v H2 => v = .non ∧ Q (.ref a) H2) fun _ _ _ => False) (nz : n ≤ 1000) :
    wpAny (model X.prog X.w) X.A (call (.ref C) us (ks.zip ws)) (EP X pins σ Q) X.xe s := by
  obtain ⟨fI, fd, gU, iC, tI, F, hb⟩ := R.init
  have T := R.ox
  obtain ⟨nm, q, N, bs, bm, sn, sub, ab, col, dd, k0, k1, k2, k3, k5, hC, hbm⟩ := T.obj
  obtain ⟨hp, g, dr, tk, os⟩ := s
  have big : hp.objs.size ≤ hp.objs.size + 1 := Nat.le_succ _
  have old : ∀ b o, hp.get? b = some o → ((hp.push (PySem.W.kdv_tup us)).push (PySem.HandSPX.excO C hp.objs.size)).get? b = some o := fun b o z => Heap.get?_push_of_some _ (Heap.get?_push_of_some _ z)
  have new : ((hp.push (PySem.W.kdv_tup us)).push (PySem.HandSPX.excO C hp.objs.size)).get? (hp.objs.size + 1) = some (PySem.HandSPX.excO C hp.objs.size) := by heap_get
  have free : H (hp.objs.size + 1) = none := I.hok.fresh big
  have I2 : Inv X pins σ (upd H (hp.objs.size + 1) (exo (hp.objs.size + 1) C none)) ⟨(hp.push (PySem.W.kdv_tup us)).push (PySem.HandSPX.excO C hp.objs.size), g, dr, tk, os⟩ := I.laid (t' := tk) (a := hp.objs.size + 1) (o := exo (hp.objs.size + 1) C none) (h' := (hp.push (PySem.W.kdv_tup us)).push (PySem.HandSPX.excO C hp.objs.size)) old big (exo_ok new)
  have hq := h _ free
  have r1 : Vals (V.ref (hp.objs.size + 1) :: vs) (Value.ref (hp.objs.size + 1) :: us) := .cons rfl r
  have r2 := hb.rel r1 rz
  have e1 : (Value.ref (hp.objs.size + 1) :: us).length = n + 1 := r1.length.symm.trans (congrArg Nat.succ l1)
  have e2 : ws.length = ks.length := rz.length.symm.trans l2
  have few : us.length ≤ sizeLine := by
    rw [← r.length, l1, sizeLine_eq]
    omega
  refine wpAny_call (PySem.HandSPX.call_ownK T.tail.base hbm.has (I.kIn _ _ hC) (PySem.W.looks_findIn I.kIn iC) (fun self => PySem.W.bind_fn I.kIn self tI) few ?_)
  refine codeAny_mono (F.run _ X.stack _ _ ⟨Value.ref (hp.objs.size + 1) :: us, ks.zip ws⟩ (gU (Value.ref (hp.objs.size + 1) :: us) ws) _ _ (fun _ _ _ => False) (hr.make C us (ks.zip ws)) (I2.env0.make C us (ks.zip ws)) (hb.to _ (Value.ref (hp.objs.size + 1) :: us) ws I2.kIn e1 e2) r2 hq) fun r s' hq' => ?_
  cases r with
  | error er => exact (show False from hq').elim
  | ok fl =>
    cases fl with
    | ret u =>
      obtain ⟨v, H', I3, rv, ev, q3⟩ := I2.after hq'
      subst ev
      exact ⟨rv, ⟨V.ref (hp.objs.size + 1), H', I3, rfl, q3⟩⟩
    | next => exact False.elim hq'
    | brk => exact False.elim hq'
    | cont => exact False.elim hq'
theorem pe_mkX (R : XV B newId initId bt X.prog X.w X.K X.mg X.base x C n ps [] gV sp) (nz : n ≤ 1000) (hr : Room 2 X.A) (hg : Gl X x) (ha : PA X (e :: es) t) (hdb : (x == ("__debug__" : Str)) = false := by decide)
    (he : starEach (e :: es) X.env = (false, eval e X.env) :: starEach es X.env := by rfl) (hpl : (backTo pos (starEach es X.env)).any (·.1) = false := by rfl) :
    PE X (.Call (.Name x p) (e :: es) [] pos) (tMkX C n 0 sp gV t tNil) := by
  refine ⟨fun pins s σ H Q I h => ?_⟩
  refine wpAny_Call_Name_kw (ld_glob I hg R.g ?_ hdb)
  refine PySem.W.callWith_K (h₀ := X.base) I.ok.mod.kin R.ox.kC (thn (ha.run pos pins s σ H _ I h) fun us s1 z => ?_) he hpl
  obtain ⟨vs, H1, I1, r, l1, l2, q⟩ := z
  exact ⟨I1.kIn, run_mkX (ws := []) (zs := []) R hr I1 r .nil l1 rfl q nz⟩
theorem pe_mkXK (R : XV B newId initId bt X.prog X.w X.K X.mg X.base x C 0 ps ks gV sp) (hr : Room 2 X.A) (hg : Gl X x) (hkw : PK X kws tk)
    (hall : (backToKw pos (keywordEach kws X.env)).all (·.1.isSome) = true := by rfl) (hks : (backToKw pos (keywordEach kws X.env)).filterMap (·.1) = ks := by rfl) (hdb : (x == ("__debug__" : Str)) = false := by decide)
    (hpl : ((backTo pos (starEach [] X.env)).any (·.1) || (backToKw pos (keywordEach kws X.env)).any (·.1.isNone)) = false := by rfl) :
    PE X (.Call (.Name x p) [] kws pos) (tMkX C 0 ks.length sp gV tNil tk) := by
  refine ⟨fun pins s σ H Q I h => ?_⟩
  refine wpAny_Call_Name_kw (ld_glob I hg R.g ?_ hdb)
  refine PySem.W.callWith_KW0 (h₀ := X.base) I.ok.mod.kin R.ox.kC hall ?_ hpl
  refine thn (hkw.run pos pins s σ H _ I h) fun ws s2 z => ?_
  obtain ⟨zs, H2, I2, rz, l1, l2, q2⟩ := z
  refine ⟨I2.kIn, ?_⟩
  rw [hks]
  exact run_mkX (us := []) (vs := []) R hr I2 .nil rz rfl l2 q2 (Nat.zero_le _)
end
/-! ### isinstance -/
def rIsV (K : PySem.W.Frag) : List V → Hp → VK → Prop := fun xs H Q => ∃ (a C : Addr) (d : Option Addr) (c : V) (b : Bool), xs = [.ref a, c] ∧ H a = some (exo a C d) ∧ ExcC K C ∧ (∀ dx, d = some dx → ∃ fs, H dx = some (exd dx fs)) ∧
  ((∃ u, ClsV c u ∧ PySem.W.kitOne K (.ref C) u = some b) ∨ (∃ tp cs us, c = .ref tp ∧ H tp = some (.tup cs) ∧ Paired ClsV cs us ∧ PySem.W.kitAny K (.ref C) us = some b)) ∧ Q (.bl b) H
section
variable {X : Cx}
theorem call_isV : CallR X (.builtin "isinstance") (rIsV X.K) := by
  intro pins s σ H xs us Q I r h
  obtain ⟨a, C, d, c, b, rfl, ha, T, hdd, hk, q⟩ := h
  obtain ⟨t1, hget⟩ := exo_at I.hok ha
  cases r with
  | cons rx rr =>
    cases rr with
    | cons rt rr =>
      cases rr
      cases rx
      have J : ∃ od, PySem.W.InstAt s.heap a ({ cls := .ref C, dict := d, data := .fields #[.ref t1, .none, .none, .none, .bool false, .none] } : Obj) C od := by
        cases d with
        | none => exact ⟨none, hget, rfl, rfl, True.intro⟩
        | some dx =>
          obtain ⟨fs, hfs⟩ := hdd dx rfl
          obtain ⟨o, ho⟩ := objOk_get (I.hok dx _ hfs)
          exact ⟨some o, hget, rfl, rfl, ho⟩
      obtain ⟨od, J⟩ := J
      have hcl : (PySem.W.clsIn X.K C).isSome = true := by
        have := T.hd
        unfold PySem.W.hasDictIn at this
        cases hc : PySem.W.clsIn X.K C with
        | some _ => rfl
        | none =>
          rw [hc] at this
          cases this
      have Z := PySem.W.kitx_exc (x := a) (ox := ({ cls := .ref C, dict := d, data := .fields #[.ref t1, .none, .none, .none, .bool false, .none] } : Obj)) (od := od) hcl T.hg T.hk T.hs T.ha T.hn T.ht T.hm
      rcases hk with ⟨u, hu, e⟩ | ⟨tp, cs, ws, rfl, hT, k, e⟩
      · cases hu.eq rt
        exact PySem.W.kia_one Z I.kIn J e (fun z => nomatch z) fun tk => ⟨.bl b, H, I.tok tk, rfl, q⟩
      · cases rt
        obtain ⟨_, its, rv, o, h1, h2, n, h3⟩ := (show ObjOk X.prog X.w H s.heap tp (.tup cs) from I.hok tp _ hT)
        cases ClsV.all k rv
        obtain ⟨oc, od', dt, sl⟩ := o
        simp only at h2 h3
        subst h2 h3
        exact PySem.W.kia_tup Z I.kIn J h1 e (fun z => nomatch z) fun tk => ⟨.bl b, H, I.tok tk, rfl, q⟩
theorem kIsV {K : PySem.W.Frag} (e : X.K = K := by rfl) : CallR X (.builtin "isinstance") (rIsV K) := e ▸ call_isV
/-! ### e.f -/
def tXgV (K : PySem.W.Frag) (f : Str) (te : TE) : TE := fun σ H Q => te σ H fun x H1 => ∃ (a C dd : Addr) (fs : List (Str × V)) (v : V), x = .ref a ∧ H1 a = some (exo a C (some dd)) ∧ XfC K C ∧ PySem.W.findIn K (.ref C) f = some none ∧ H1 dd = some (exd dd fs) ∧ fs.lookup f = some v ∧ Q v H1
theorem pe_xgV {K : PySem.W.Frag} {e : Expr} {te : TE} {pos : Pos} {n : Str} (eK : X.K = K) (he : PE X e te) (hb : attributeBase e n X.env (eval e X.env) = eval e X.env := by rfl) : PE X (.Attribute e n pos) (tXgV K n te) := by
  subst eK
  constructor
  intro pins s σ H Q I h
  apply attr_of hb
  apply thn (he.run pins s σ H _ I h)
  rintro u s1 ⟨x, H1, I1, rx, a, C, dd, fs, v, rfl, ea, T, hno, ed, l, q⟩
  cases (show u = Value.ref a from rx)
  obtain ⟨t1, hget⟩ := exo_at I1.hok ea
  obtain ⟨mA, hns, hr⟩ := exd_at I1.hok ed
  obtain ⟨od, ho, hl⟩ := lookIn_ns hns
  obtain ⟨u, hu, ru⟩ := RelO.some_of (v := v) (o := mA n) (by rw [← l]; exact hr n)
  have J : PySem.W.InstAt s1.heap a ({ cls := .ref C, dict := some dd, data := .fields #[.ref t1, .none, .none, .none, .bool false, .none] } : Obj) C (some od) := ⟨hget, rfl, rfl, ho⟩
  have ff := PySem.W.findObj_own (od := od) T.hdC hno rfl (by rw [hl, hu])
  apply HandSPX.exc_get I1.kIn J T.ga T.gg T.exC ff (handed_of ru)
  exact ⟨v, H1, I1.tok _, ru, q⟩
/-! ### classes without own __init__ -/
theorem pe_excV1 {C : Addr} {bmB : List Value} {B newId initId : String} {x : Str} {e : Expr} {ta : TE} {p pos : Pos} (F : ExcBaseFacts B newId initId bmB) (q : PySem.W.excIn X.K C bmB newId = true) (gC : X.mg x = some (.ref C)) (kC : PySem.W.keepIn X.K (.ref C) = true) (hg : Gl X x)
    (he : PE X e ta) (hs : starEach [e] X.env = (false, eval e X.env) :: starEach [] X.env := by rfl) (hdb : (x == ("__debug__" : Str)) = false := by decide) :
    PE X (.Call (.Name x p) [e] [] pos) (fun σ H Q => ta σ H fun _ H1 => ∀ a, H1 a = none → Q (.ref a) (upd H1 a (exo a C none))) := by
  refine ⟨fun pins s σ H Q I h => ?_⟩
  refine wpAny_Call_Name_kw (ld_glob I hg gC ?_ hdb)
  refine PySem.W.callWith_K (h₀ := X.base) I.ok.mod.kin kC ?_ hs (by rfl)
  rw [hs]
  show wpAny _ _ (spliced ((false, eval e X.env) :: backTo pos (starEach [] X.env))) _ _ s
  refine Calls.spliced_cons (thn (he.run pins s σ H _ I h) fun u s1 ⟨v, H1, I1, r1, q1⟩ => ?_)
  refine Calls.spliced_nil ⟨I1.kIn, ?_⟩
  show wpAny _ _ (call (.ref C) [u]) _ _ _
  obtain ⟨bm, N, nm, qn, bs, hdct, sn, sub, ab, col, dd, k0, k1, k2, k3, k5, mN, hC, hN, hni, T⟩ := exc_obj I1.kIn q
  refine wpAny_call_exc_subT F T hC hN hni (fun h' a hm => ?_) (by show 1 ≤ sizeLine; rw [sizeLine_eq]; omega)
  have hn : H1 a = none := I1.hok.gone hm.new
  obtain ⟨t, ht, _, _⟩ := hm.there
  exact ⟨.ref a, upd H1 a (exo a C none), I1.laidN hm.keeps hm.new hn (exo_ok ht), rfl, q1 a hn⟩
theorem pe_excV0 {C : Addr} {bmB : List Value} {B newId initId : String} {x : Str} {p pos : Pos} (F : ExcBaseFacts B newId initId bmB) (q : PySem.W.excIn X.K C bmB newId = true) (gC : X.mg x = some (.ref C)) (kC : PySem.W.keepIn X.K (.ref C) = true) (hg : Gl X x)
    (hdb : (x == ("__debug__" : Str)) = false := by decide) :
    PE X (.Call (.Name x p) [] [] pos) (fun σ H Q => ∀ a, H a = none → Q (.ref a) (upd H a (exo a C none))) := by
  refine ⟨fun pins s σ H Q I h => ?_⟩
  refine wpAny_Call_Name_kw (ld_glob I hg gC ?_ hdb)
  refine PySem.W.callWith_K0 (first := []) I.kIn kC ?_
  show wpAny _ _ (call (.ref C) []) _ _ _
  obtain ⟨bm, N, nm, qn, bs, hdct, sn, sub, ab, col, dd, k0, k1, k2, k3, k5, mN, hC, hN, hni, T⟩ := exc_obj I.kIn q
  refine wpAny_call_exc_subT F T hC hN hni (fun h' a hm => ?_) (Nat.zero_le _)
  have hn : H a = none := I.hok.gone hm.new
  obtain ⟨t, ht, _, _⟩ := hm.there
  exact ⟨.ref a, upd H a (exo a C none), I.laidN hm.keeps hm.new hn (exo_ok ht), rfl, h a hn⟩
end
end LK
set_option Elab.async false
set_option linter.all false
set_option maxRecDepth 100000
set_option maxHeartbeats 4000000
/-! LK253: all own exceptions beside each other; their fields; promises of k18 -/
namespace LK
open PySem PySem.Spec L2
open PyProof.Rows hiding St
def clsL (cs : List Addr) (i : Nat) : Addr := cs.getD i 0
def relB (i j : Nat) : Bool := decide (i = j) || (decide (j = 27) && decide (i < 15)) || (decide (j = 28) && decide (15 ≤ i) && decide (i < 18)) || (decide (j = 29) && decide (18 ≤ i) && decide (i < 25)) || (decide (j = 30) && decide (25 ≤ i) && decide (i < 27))
def grpN (i : Nat) : Nat := if i < 15 then 0 else if i < 18 then 1 else if i < 25 then 2 else if i < 27 then 3 else i - 27
def tyN : List String := ["ValueError", "LookupError", "RuntimeError", "ArithmeticError", "KeyError", "IndexError"]
def relT (i t : Nat) : Bool := decide (grpN i = t)
structure XAll (K : PySem.W.Frag) (cs : List Addr) : Prop where
  kit : ∀ i j, i < 31 → j < 31 → PySem.W.kitOne K (.ref (clsL cs i)) (.ref (clsL cs j)) = some (relB i j)
  kitT : ∀ i t, i < 31 → t < 6 → PySem.W.kitOne K (.ref (clsL cs i)) (.type (tyN.getD t "")) = some (relT i t)
def xallB (K : PySem.W.Frag) (cs : List Addr) : Bool := (List.range 31).all fun i => PySem.W.isClsIn K (clsL cs i) && decide (PySem.W.typeIn K (.ref (clsL cs i)) = some (.type "type")) && ((List.range 31).all fun j => decide (PySem.W.subIn K (.ref (clsL cs i)) (.ref (clsL cs j)) = some (relB i j))) && ((List.range 6).all fun t => decide (PySem.W.subIn K (.ref (clsL cs i)) (.type (tyN.getD t "")) = some (relT i t)))
theorem xall_of {K : PySem.W.Frag} {cs : List Addr} (h : xallB K cs = true) : XAll K cs := by
  unfold xallB at h
  rw [List.all_eq_true] at h
  have key : ∀ i, i < 31 → PySem.W.isClsIn K (clsL cs i) = true ∧ PySem.W.typeIn K (.ref (clsL cs i)) = some (.type "type") ∧ (∀ j, j < 31 → PySem.W.subIn K (.ref (clsL cs i)) (.ref (clsL cs j)) = some (relB i j)) ∧ ∀ t, t < 6 → PySem.W.subIn K (.ref (clsL cs i)) (.type (tyN.getD t "")) = some (relT i t) := fun i hi => by
    have z := h i (List.mem_range.mpr hi)
    rw [Bool.and_eq_true, Bool.and_eq_true, Bool.and_eq_true] at z
    obtain ⟨⟨⟨z1, z2⟩, z3⟩, z4⟩ := z
    rw [List.all_eq_true] at z3 z4
    exact ⟨z1, of_decide_eq_true z2, fun j hj => of_decide_eq_true (z3 j (List.mem_range.mpr hj)), fun t ht => of_decide_eq_true (z4 t (List.mem_range.mpr ht))⟩
  refine ⟨fun i j hi hj => ?_, fun i t hi ht => ?_⟩
  · obtain ⟨_, _, k3, _⟩ := key i hi
    obtain ⟨k1, k2, _, _⟩ := key j hj
    have self : PySem.W.subIn K (.ref (clsL cs i)) (.ref (clsL cs i)) = some true := by
      rw [k3 i hi]
      unfold relB
      rw [decide_eq_true rfl]
      simp
    exact kit_sub (k3 j hj) self k1 k2
  · obtain ⟨_, _, _, k4⟩ := key i hi
    refine kit_subT (k4 t ht) ?_
    have : ∀ t, t < 6 → PySem.W.kitMeta (tyN.getD t "") = true := by decide +kernel
    exact this t ht
theorem rot_rel {vs : List V} {us : List Value} {zs : List V} {ws : List Value} (r : Vals vs us) (z : Vals zs ws) : Vals (vs ++ (zs.drop 1 ++ zs.take 1)) (us ++ (ws.drop 1 ++ ws.take 1)) := by
  refine r.append ?_
  cases z with
  | nil => exact .nil
  | cons h t =>
    show Vals (_ ++ [_]) (_ ++ [_])
    exact Vals.append t (.cons h .nil)
theorem fun_kbn {K : PySem.W.Frag} {x qual : Str} {st : Stmt} {f : Addr} {fd : FuncData} {ps ks : List Str} {n : Nat} {g : List Value → List Value → List Value} {gV : List V → List V → List V} (F : Fun K x qual st f fd)
    (h : ∀ (kV doc pm : Value) (an : Option Addr) (cdv ct : Value) (us ws : List Value), us.length = n → ws.length = ks.length → bindArgs (PySem.W.fnOf x qual (defArgs st) (defBody st) (defScope st) .none kV doc pm an cdv ct) ⟨us, ks.zip ws⟩ = pure (ps.zip (g us ws)))
    (rel : ∀ {vs : List V} {us : List Value} {zs : List V} {ws : List Value}, Vals vs us → Vals zs ws → Vals (gV vs zs) (g us ws)) : KBn K fd ps n ks g gV := by
  obtain ⟨oc, od, kV, doc, pm, an, cdv, ct, osl, rfl, lk, hcd⟩ := F.ex
  exact ⟨fun s us ws X l1 l2 => .of_eq (h kV doc pm an cdv ct us ws l1 l2), fun r z => rel r z⟩
/-! ### __init__ with its fields -/
def spIV (C : Addr) (fs : List Str) : Sp := fun vs H Q _ => ∃ (a : Addr) (ws : List V), vs = .ref a :: ws ∧ ws.length = fs.length ∧ H a = some (exo a C none) ∧ ∀ dx, H dx = none → dx ≠ a → Q .non (upd (upd H dx (exd dx (fs.zip ws).reverse)) a (exo a C (some dx)))
section
variable {B newId initId : String} {bt : List Value} {K : PySem.W.Frag} {C : Addr} {f f1 f2 f3 z : Str} {vs : List V} {H : Hp} {Q : VK} {E : XK} {p0 p1 p2 p3 : Str}
theorem rd_initV1 (T : OexB B newId initId bt K C) (n1 : PySem.W.findIn K (.ref C) f1 = some none) (h : spIV C [f1] vs H Q E) :
    tSeq (tDrop (tBiB B newId initId bt K (tCons (tVar 0) (tCons (tC (.str z)) tNil)))) (tOstB B newId initId bt K f1 (tVar 0) (tVar 1)) { nx := fun _ H' => Q .non H', rt := Q } (start [p0, p1] vs) H := by
  obtain ⟨a, ws, rfl, l, ea, q⟩ := h
  match ws, l with
  | [v], _ => exact ⟨.ref a, rfl, a, C, [.str z], rfl, (by show 1 ≤ 1000; decide), T, ea, v, rfl, .ref a, rfl, a, C, rfl, T, n1, .inl ⟨ea, fun dx hn hne => q dx hn hne⟩⟩
theorem upd_mid {a dx : Addr} {x x' y : HO} (h : dx ≠ a) : upd (upd (upd H dx x) a y) dx x' = upd (upd H dx x') a y := by
  funext b
  by_cases e : b = dx
  · subst e
    rw [upd_same, upd_ne h, upd_same]
  · rw [upd_ne e]
    by_cases e2 : b = a
    · subst e2
      rw [upd_same, upd_same]
    · rw [upd_ne e2, upd_ne e2, upd_ne e, upd_ne e]
theorem rd_initV2 (T : OexB B newId initId bt K C) (n1 : PySem.W.findIn K (.ref C) f1 = some none) (n2 : PySem.W.findIn K (.ref C) f2 = some none) (h : spIV C [f1, f2] vs H Q E) :
    tSeq (tDrop (tBiB B newId initId bt K (tCons (tVar 0) (tCons (tC (.str z)) tNil)))) (tSeq (tOstB B newId initId bt K f1 (tVar 0) (tVar 1)) (tOstB B newId initId bt K f2 (tVar 0) (tVar 2))) { nx := fun _ H' => Q .non H', rt := Q } (start [p0, p1, p2] vs) H := by
  obtain ⟨a, ws, rfl, l, ea, q⟩ := h
  match ws, l with
  | [v1, v2], _ =>
    refine ⟨.ref a, rfl, a, C, [.str z], rfl, (by show 1 ≤ 1000; decide), T, ea, v1, rfl, .ref a, rfl, a, C, rfl, T, n1, .inl ⟨ea, fun dx hn hne => ⟨v2, rfl, .ref a, rfl, a, C, rfl, T, n2, .inr ⟨dx, [(f1, v1)], upd_same, by rw [upd_ne hne, upd_same], by show 1 ≤ 900; decide, ?_⟩⟩⟩⟩
    have := q dx hn hne
    show Q .non (upd _ dx _)
    rw [upd_mid hne]
    exact this
theorem rd_initV3 (T : OexB B newId initId bt K C) (n1 : PySem.W.findIn K (.ref C) f1 = some none) (n2 : PySem.W.findIn K (.ref C) f2 = some none) (n3 : PySem.W.findIn K (.ref C) f3 = some none) (h : spIV C [f1, f2, f3] vs H Q E) :
    tSeq (tDrop (tBiB B newId initId bt K (tCons (tVar 0) (tCons (tC (.str z)) tNil)))) (tSeq (tOstB B newId initId bt K f1 (tVar 0) (tVar 1)) (tSeq (tOstB B newId initId bt K f2 (tVar 0) (tVar 2)) (tOstB B newId initId bt K f3 (tVar 0) (tVar 3)))) { nx := fun _ H' => Q .non H', rt := Q } (start [p0, p1, p2, p3] vs) H := by
  obtain ⟨a, ws, rfl, l, ea, q⟩ := h
  match ws, l with
  | [v1, v2, v3], _ =>
    refine ⟨.ref a, rfl, a, C, [.str z], rfl, (by show 1 ≤ 1000; decide), T, ea, v1, rfl, .ref a, rfl, a, C, rfl, T, n1, .inl ⟨ea, fun dx hn hne => ⟨v2, rfl, .ref a, rfl, a, C, rfl, T, n2, .inr ⟨dx, [(f1, v1)], upd_same, by rw [upd_ne hne, upd_same], by show 1 ≤ 900; decide, ?_⟩⟩⟩⟩
    show tOstB B newId initId bt K f3 (tVar 0) (tVar 3) _ _ (upd _ dx _)
    rw [upd_mid hne]
    refine ⟨v3, rfl, .ref a, rfl, a, C, rfl, T, n3, .inr ⟨dx, [(f2, v2), (f1, v1)], upd_same, by rw [upd_ne hne, upd_same], by show 2 ≤ 900; decide, ?_⟩⟩
    have := q dx hn hne
    show Q .non (upd _ dx _)
    rw [upd_mid hne]
    exact this
end
end LK
set_option Elab.async false
set_option linter.all false
set_option maxRecDepth 100000
set_option maxHeartbeats 1000000
set_option exponentiation.threshold 20000
/-! LK254: list(zip(xs, ys)) of any values -/
namespace LK
open PySem PySem.Spec L2
open PyProof.Rows hiding St
structure PG (kvs : List (V × Value)) (lo : Addr) (h : Heap) (as : List Addr) : Prop where
  rise : as.Pairwise (· < ·)
  above : ∀ a ∈ as, lo < a
  pairs : ∀ (j : Nat) (a : Addr), as[j]? = some a → ∃ key k x, kvs[j]? = some (k, x) ∧ RelV k key ∧ h.get? a = some { cls := .type "tuple", data := .seq #[key, x] }
theorem PG.there {kvs : List (V × Value)} {lo : Addr} {h : Heap} {as : List Addr} (g : PG kvs lo h as) {a : Addr} (ha : a ∈ as) : a < h.objs.size := by
  obtain ⟨j, hj⟩ := List.mem_iff_getElem?.mp ha
  obtain ⟨_, _, _, _, _, e⟩ := g.pairs j a hj
  exact Heap.lt_size e
section
variable {prog : Program} {w : World} {A : Around} {s : Shared} {R : Result → Shared → Prop} {kvs : List (V × Value)} {z TI TO i1 i2 l1 l2 S : Addr} {xs ys : Array Value}
structure ZR (kvs : List (V × Value)) (xs ys : Array Value) : Prop where
  at' : ∀ (j : Nat) (k : V) (v : Value), kvs[j]? = some (k, v) → ∃ key, xs[j]? = some key ∧ RelV k key ∧ ys[j]? = some v
  stop : xs[kvs.length]? = none ∨ ys[kvs.length]? = none
theorem zrl_loop (hh : A.handled = none) (D : ZipApart z TI TO i1 i2 l1 l2) (L : ZLow S z TI TO i1 i2 l1 l2) (Z : ZR kvs xs ys) (hn : kvs.length ≤ sizeLine) (res : Value) {h₁ : Heap}
    (hR : ∀ h' tk acc c as, (∀ b o, b ≠ S → b ∉ [z, TO, i1, i2] → h₁.get? b = some o → h'.get? b = some o) → h'.get? S = some { cls := .type "list", dict := none, data := .seq acc c, slots := #[] } → as.length = kvs.length → PG kvs S h' as →
      acc.toList = as.map Value.ref → R (.ok (.ret res)) { s with heap := h', toks := tk }) :
    ∀ (k i : Nat) (h : Heap) (tk c : Nat) (acc : Array Value) (as : List Addr), kvs.length - i = k → i ≤ kvs.length → ZSt h z TI TO i1 i2 l1 l2 S xs ys i → (∀ b o, b ≠ S → b ∉ [z, TO, i1, i2] → h₁.get? b = some o → h.get? b = some o) →
      h.get? S = some { cls := .type "list", dict := none, data := .seq acc c, slots := #[] } → acc.toList = as.map Value.ref → as.length = i → PG kvs S h as →
      codeAny (model prog w) A (.builtin "list.extend.loop" ⟨[.ref S, .ref z, res], []⟩) R { s with heap := h, toks := tk } := by
  have low : ∀ b ∈ [z, TO, i1, i2], b < S := fun b hb => by
    simp only [List.mem_cons, List.not_mem_nil, or_false] at hb
    rcases hb with rfl | rfl | rfl | rfl
    · exact L.z
    · exact L.TO
    · exact L.i1
    · exact L.i2
  have hSo : S ∉ [z, TO, i1, i2] := fun m => Nat.lt_irrefl _ (low S m)
  intro k
  induction k with
  | zero =>
    intro i h tk c acc as hk hi hst hkeep hS hacc hal hG
    have hin : i = kvs.length := by omega
    subst hin
    refine codeAny_builtin PySem.F.entry_extend_loop ?_
    rw [Around.under_plainId PySem.F.plain_extend_loop _]
    show wpAny _ A.in1 (pyNext (.ref z) >>= _) _ _ _
    refine wpAny_bind (zst_done (s := { s with heap := h, toks := tk }) (A := A.in1) hh D hst Z.stop fun h' he => ?_)
    refine wpAny_pure (hR h' tk acc c as (fun b o h1 h2 e => he b o h2 (hkeep b o h1 h2 e)) (he S _ hSo hS) (by omega) ⟨hG.rise, hG.above, fun j a hj => ?_⟩ hacc)
    obtain ⟨key, kk, x, e1, e2, e3⟩ := hG.pairs j a hj
    exact ⟨key, kk, x, e1, e2, he a _ (fun m => absurd (low a m) (Nat.not_lt.mpr (Nat.le_of_lt (hG.above a (List.mem_of_getElem? hj))))) e3⟩
  | succ k ih =>
    intro i h tk c acc as hk hi hst hkeep hS hacc hal hG
    have hlt : i < kvs.length := by omega
    obtain ⟨⟨kk, x⟩, hx⟩ : ∃ p, kvs[i]? = some p := ⟨kvs[i], List.getElem?_eq_getElem hlt⟩
    obtain ⟨key, ek, hkey, ev⟩ := Z.at' i kk x hx
    have hsz : acc.size = i := by rw [← Array.length_toList, hacc, List.length_map, hal]
    have hSl : S < h.objs.size := Heap.lt_size hS
    refine codeAny_builtin PySem.F.entry_extend_loop ?_
    rw [Around.under_plainId PySem.F.plain_extend_loop _]
    show wpAny _ A.in1 (pyNext (.ref z) >>= _) _ _ _
    refine wpAny_bind (zst_item (s := { s with heap := h, toks := tk }) (S := S) D hst hSl ek ev fun h' hst' ht hz hkp => ?_)
    dsimp only at ht hz hkp ⊢
    have hS' := hkp S _ hSo hS
    have up : ∀ b o, b ≠ S → h'.get? b = some o → (h'.update S (Obj.mapSeq (·.push (Value.ref h.objs.size)))).get? b = some o := fun b o hb e => (Heap.get?_update_other _ _ (Ne.symm hb)).trans e
    show wpAny _ A.in1 (updateSeq S (·.push (Value.ref h.objs.size)) >>= _) _ _ _
    refine wpAny_bind ?_
    refine wpAny_updateSeq hS' rfl (wpAny_pure ⟨plainId_quiet PySem.F.plain_extend_loop _, ih (i + 1) _ tk _ (acc.push (Value.ref h.objs.size)) (as ++ [h.objs.size]) (by omega) hlt (hst'.keep L up)
      (fun b o h1 h2 e => up b o h1 (hkp b o h2 (hkeep b o h1 h2 e))) (Heap.get?_update_self _ hS' rfl) (by rw [Array.toList_push, hacc, List.map_append]; rfl) (by rw [List.length_append, hal]; rfl) ⟨?_, ?_, ?_⟩⟩) (by rw [hsz]; omega) (by show (acc.push (Value.ref h.objs.size)).size ≤ sizeLine + 1; rw [Array.size_push, hsz]; omega)
    · refine List.pairwise_append.mpr ⟨hG.rise, List.pairwise_singleton _ _, fun a ha b hb => ?_⟩
      rw [List.mem_singleton.mp hb]
      exact hG.there ha
    · intro a ha
      rcases List.mem_append.mp ha with ha | ha
      · exact hG.above a ha
      · rw [List.mem_singleton.mp ha]; exact hSl
    · intro j b hj
      rcases Nat.lt_trichotomy j as.length with h1 | h1 | h1
      · rw [List.getElem?_append_left h1] at hj
        obtain ⟨key', k', x', e1, e2, e3⟩ := hG.pairs j b hj
        have hb := hG.above b (List.mem_of_getElem? hj)
        exact ⟨key', k', x', e1, e2, up b _ (Nat.ne_of_gt hb) (hkp b _ (fun m => absurd (low b m) (Nat.not_lt.mpr (Nat.le_of_lt hb))) e3)⟩
      · subst h1
        have hb : h.objs.size = b := by simpa using hj
        subst hb
        exact ⟨key, kk, x, by rw [hal]; exact hx, hkey, up _ _ (Nat.ne_of_gt hSl) ht⟩
      · have hnone : (as ++ [h.objs.size])[j]? = none := List.getElem?_eq_none (by rw [List.length_append, List.length_singleton]; omega)
        rw [hnone] at hj; cases hj
theorem zrl_extend (hh : A.handled = none) (D : ZipApart z TI TO i1 i2 l1 l2) (L : ZLow S z TI TO i1 i2 l1 l2) (Z : ZR kvs xs ys) (hst : ZSt s.heap z TI TO i1 i2 l1 l2 S xs ys 0) (res : Value) (c₀ : Nat) (hS : s.heap.get? S = some { cls := .type "list", data := .seq #[] c₀ })
    (hR : ∀ h' tk acc c as, (∀ b o, b ≠ S → b ∉ [z, TO, i1, i2] → s.heap.get? b = some o → h'.get? b = some o) → h'.get? S = some { cls := .type "list", dict := none, data := .seq acc c, slots := #[] } → as.length = kvs.length → PG kvs S h' as →
      acc.toList = as.map Value.ref → R (.ok (.ret res)) { s with heap := h', toks := tk }) (hn : kvs.length ≤ sizeLine) :
    wpAny (model prog w) A.in1 (Builtin.List.listExtendWith (.ref S) (.ref z) res)
      (fun fin s' => match fin with | .done f => R (.ok f) s' | .again c' => c'.quiet = true ∧ codeAny (model prog w) A c' R s') (fun e s' => R (.error e) s') s := by
  have key : ∀ (h : Heap) (c₁ tk : Nat), (∀ b o, b ≠ S → s.heap.get? b = some o → h.get? b = some o) →
      h.get? S = some { cls := .type "list", data := .seq #[] c₁ } → codeAny (model prog w) A (.builtin "list.extend.loop" ⟨[.ref S, .ref z, res], []⟩) R { s with heap := h, toks := tk } := by
    intro h c₁ tk hk hS₁
    exact zrl_loop (kvs := kvs) (s := s) (h₁ := s.heap) hh D L Z hn res hR kvs.length 0 h tk c₁ #[] [] (Nat.sub_zero _) (Nat.zero_le _) (hst.keep L hk) (fun b o hb _ e => hk b o hb e) hS₁ rfl rfl
      ⟨List.Pairwise.nil, (fun _ ha => nomatch ha), (fun j a hj => by simp at hj)⟩
  have hT : s.TypeIs (.ref z) "zip" := by
    obtain ⟨_, _, _, _, _, hz⟩ := hst
    rcases hz with ⟨hz, _⟩ | ⟨T, f, oT, hz, _⟩
    · exact ⟨_, hz, rfl⟩
    · exact ⟨_, hz, rfl⟩
  have hIt : ∀ {Q : Value → Shared → Prop} {E : Value → Shared → Prop}, Q (.ref z) s → wpAny (model prog w) A.in1 (pyIter (.ref z)) Q E s := by
    intro Q E hq
    obtain ⟨_, _, _, _, _, hz⟩ := hst
    rcases hz with ⟨hz, _⟩ | ⟨T, f, oT, hz, _⟩
    · exact wpAny_pyIter_zip hz hq
    · refine wpAny_pyIter_slot hT PySem.F.slot_zip_iter (wpAny_call_entry PySem.F.slot_zip_iter hT PySem.F.entry_zip_iter ?_ (PySem.F.args_zip_iter_1 _))
      show wpAny _ _ (ret (.ref z)) _ _ s
      exact wpAny_pure ⟨_, rfl, "zip", _, hT, PySem.F.slot_zip_next.lookup, hq⟩
  unfold Builtin.List.listExtendWith
  refine wpAny_bind (wpAny_typeOf (T := "zip") hT ?_)
  have h1 : Builtin.List.listSameRef (.ref S) (.ref z) = false := by simp [Builtin.List.listSameRef, Nat.ne_of_gt L.z]
  have h2 : (Value.type "zip" == Value.type "list") = false := by decide
  have h3 : (Value.type "zip" == Value.type "tuple") = false := by decide
  simp only [h1, h2, h3, Bool.or_false, Bool.false_eq_true, if_false]
  refine wpAny_bind (hIt ?_)
  refine wpAny_bind (wpAny_holding ?_)
  unfold Builtin.List.listLengthHint
  refine wpAny_bind (wpAny_specialOf hT zip_no_len ?_)
  show wpAny _ A.in1 (specialOf (Value.ref z) (Str.ofString "__length_hint__") >>= _) _ _ _
  refine wpAny_bind (wpAny_specialOf hT zip_no_hint ?_)
  refine wpAny_pure ?_
  show wpAny _ A.in1 (rule "list.extend.makes-room" >>= fun _ => Builtin.List.listTouch (.ref S) >>= fun _ =>
    again (.builtin "list.extend.loop" ⟨[.ref S, .ref z, res], []⟩)) _ _ _
  refine wpAny_bind (wpAny_rule ?_)
  refine wpAny_bind ?_
  show wpAny _ A.in1 (updateSeq S (·.push .none) >>= fun _ => updateSeq S (·.pop)) _ _ _
  refine wpAny_bind (wpAny_updateSeq hS rfl ?_)
  have hS₂ := Heap.get?_update_self (Obj.mapSeq (·.push Value.none)) hS rfl
  refine wpAny_updateSeq (hz := by seq_fits) hS₂ rfl ?_
  have hS₃ := Heap.get?_update_self (Obj.mapSeq (·.pop)) hS₂ rfl
  refine wpAny_pure ⟨plainId_quiet PySem.F.plain_extend_loop _, key _ _ _ (fun b o hb e => ?_) hS₃⟩
  exact (Heap.get?_update_other _ _ (Ne.symm hb)).trans ((Heap.get?_update_other _ _ (Ne.symm hb)).trans e)
theorem zrl_init (hh : A.handled = none) (D : ZipApart z TI TO i1 i2 l1 l2) (L : ZLow S z TI TO i1 i2 l1 l2) (Z : ZR kvs xs ys) (hst : ZSt s.heap z TI TO i1 i2 l1 l2 S xs ys 0) (hS : s.heap.get? S = some { cls := .type "list", data := .seq #[] })
    (hR : ∀ h' tk acc c as, (∀ b o, b ≠ S → b ∉ [z, TO, i1, i2] → s.heap.get? b = some o → h'.get? b = some o) → h'.get? S = some { cls := .type "list", dict := none, data := .seq acc c, slots := #[] } → as.length = kvs.length → PG kvs S h' as →
      acc.toList = as.map Value.ref → R (.ok (.ret .none)) { s with heap := h', toks := tk }) (hn : kvs.length ≤ sizeLine) :
    wpAny (model prog w) A.in1 (Builtin.«list.__init__» ⟨[.ref S, .ref z], []⟩)
      (fun fin s' => match fin with | .done f => R (.ok f) s' | .again c' => c'.quiet = true ∧ codeAny (model prog w) A c' R s') (fun e s' => R (.error e) s') s := by
  show wpAny _ _ (do let old ← Builtin.List.listItems (.ref S); Builtin.List.listUpdate (.ref S) (fun _ => #[]); letGo old.toList.reverse; Builtin.List.listExtendWith (.ref S) (.ref z) .none) _ _ s
  refine wpAny_bind ?_
  unfold Builtin.List.listItems
  refine wpAny_bind (wpAny_seqItems hS rfl (wpAny_pure ?_))
  show wpAny _ _ (updateSeq S (fun _ => #[]) >>= fun _ => letGo (#[] : Array Value).toList.reverse >>= fun _ => Builtin.List.listExtendWith (.ref S) (.ref z) .none) _ _ s
  refine wpAny_bind (wpAny_updateSeq hS rfl ?_)
  have hS₂ := Heap.get?_update_self (Obj.mapSeq (fun _ => (#[] : Array Value))) hS rfl
  have oth : ∀ b o, b ≠ S → s.heap.get? b = some o → (s.heap.update S (Obj.mapSeq (fun _ => (#[] : Array Value)))).get? b = some o :=
    fun b o hb e => (Heap.get?_update_other _ _ (Ne.symm hb)).trans e
  refine wpAny_bind (wpAny_letGo ?_)
  exact zrl_extend (kvs := kvs) (s := { s with heap := s.heap.update S (Obj.mapSeq (fun _ => (#[] : Array Value))) }) hh D L Z (hst.keep L oth) .none _ hS₂ (fun h' tk acc c as hk hS' hl hG hacc => hR h' tk acc c as (fun b o h1 h2 e => hk b o h1 h2 (oth b o h1 e)) hS' hl hG hacc) hn
end
section
variable {prog : Program} {w : World} {A : Around} {E : Value → Shared → Prop} {s : Shared} {kvs : List (V × Value)} {z TI TO i1 i2 l1 l2 : Addr} {xs ys : Array Value}
theorem zrl_call {Q : Value → Shared → Prop} (hh : A.handled = none) (D : ZipApart z TI TO i1 i2 l1 l2) (L : ZLow s.heap.objs.size z TI TO i1 i2 l1 l2) (Z : ZR kvs xs ys) (hst : ZSt s.heap z TI TO i1 i2 l1 l2 s.heap.objs.size xs ys 0) (hn : kvs.length ≤ sizeLine)
    (hQ : ∀ h' tk acc c as, (∀ b o, b ∉ [z, TO, i1, i2] → s.heap.get? b = some o → h'.get? b = some o) → h'.get? s.heap.objs.size = some { cls := .type "list", dict := none, data := .seq acc c, slots := #[] } → as.length = kvs.length → PG kvs s.heap.objs.size h' as →
      acc.toList = as.map Value.ref → Q (.ref s.heap.objs.size) { s with heap := h', toks := tk }) :
    wpAny (model prog w) A (call (.type "list") [.ref z]) Q E s := by
  refine callType_codes (Q₁ := fun obj s₁ => obj = .ref s.heap.objs.size ∧ s₁ = { s with heap := s.heap.push { cls := .type "list", data := .seq #[] } }) PySem.F.called_list (PySem.F.typeCall_list_1 _) PySem.F.entry_list_init
    (code_list_new _ ⟨rfl, rfl⟩) fun obj s₁ h₁ => ?_
  obtain ⟨rfl, rfl⟩ := h₁
  have hS : (s.heap.push { cls := .type "list", data := .seq #[] }).get? s.heap.objs.size = some { cls := .type "list", data := .seq #[] } := Heap.get?_push_size _ rfl
  refine ⟨⟨_, hS, rfl⟩, PySem.F.args_list_init_2 _ _, zrl_init (kvs := kvs) (A := A.in1) (s := { s with heap := s.heap.push { cls := .type "list", data := .seq #[] } }) hh D L Z (hst.keep L fun b o _ e => Heap.get?_push_of_some _ e) hS (fun h' tk acc c as hk hS' hl hG hacc => ?_) hn⟩
  exact ⟨rfl, hQ h' tk acc c as (fun b o h2 e => hk b o (Nat.ne_of_lt (Heap.lt_size e)) h2 (Heap.get?_push_of_some _ e)) hS' hl hG hacc⟩
end
open LiI (paired_ix)
abbrev KVR (kvs : List (V × V)) (vs : List (V × Value)) : Prop := Paired (fun p q => p.1 = q.1 ∧ RelV p.2 q.2) kvs vs
theorem kvr_zip : ∀ {ks : List V} {ys : List V} {us : List Value}, Vals ys us → KVR (ks.zip ys) (ks.zip us)
  | [], _, _, _ => .nil
  | k :: ks, _, _, .nil => .nil
  | k :: ks, _, _, .cons r t => by
    rw [List.zip_cons_cons, List.zip_cons_cons]
    exact .cons ⟨rfl, r⟩ (kvr_zip t)
def putR : Hp → List Addr → List (V × V) → Hp
  | H, a :: as, p :: kvs => putR (upd H a (.tup [p.1, p.2])) as kvs
  | H, _, _ => H
theorem putR_off {b : Addr} : ∀ (as : List Addr) (kvs : List (V × V)) (H : Hp), b ∉ as → putR H as kvs b = H b
  | [], _, _, _ => rfl
  | _ :: _, [], _, _ => rfl
  | a :: as, p :: kvs, H, h => by
    show putR (upd H a (.tup [p.1, p.2])) as kvs b = H b
    rw [putR_off as kvs _ (fun z => h (List.mem_cons_of_mem _ z)), upd_ne (fun z => h (by rw [z]; exact List.mem_cons_self))]
theorem putR_at : ∀ (as : List Addr) (kvs : List (V × V)) (H : Hp), as.length = kvs.length → as.Nodup → Paired (fun (t : Addr) (p : V × V) => putR H as kvs t = some (.tup [p.1, p.2])) as kvs
  | [], [], _, _, _ => .nil
  | [], _ :: _, _, h, _ => by cases h
  | _ :: _, [], _, h, _ => by cases h
  | a :: as, p :: kvs, H, h, hn => by
    have hn' := List.nodup_cons.mp hn
    have ih := putR_at as kvs (upd H a (.tup [p.1, p.2])) (Nat.succ.inj h) hn'.2
    refine .cons ?_ ih
    show putR (upd H a (.tup [p.1, p.2])) as kvs a = some (.tup [p.1, p.2])
    rw [putR_off as kvs _ hn'.1, upd_same]
theorem items_laidR {X : Cx} {pins : List (Addr × Obj)} {σ : L2.St} {H : Hp} {s : Shared} {h' : Heap} {tk : Nat} {S : Addr} {kvs : List (V × V)} {vs : List (V × Value)} {acc : Array Value} {c : Nat} {as : List Addr} (I : Inv X pins σ H s) (hz : kvs.length ≤ sizeLine) (kv : KVR kvs vs) (hSs : s.heap.objs.size ≤ S)
    (hk : ∀ b o, s.heap.get? b = some o → h'.get? b = some o) (hS : h'.get? S = some { cls := .type "list", dict := none, data := .seq acc c, slots := #[] }) (hl : as.length = vs.length) (hG : PG vs S h' as) (hacc : acc.toList = as.map Value.ref) :
    ∃ H' : Hp, (∀ b o, H b = some o → H' b = some o) ∧ H S = none ∧ (∀ t ∈ as, H t = none) ∧ S ∉ as ∧ H' S = some (.lst (as.map V.ref)) ∧ Paired (fun (t : Addr) (q : V × V) => H' t = some (.tup [q.1, q.2])) as kvs ∧ Inv X pins σ H' { s with heap := h', toks := tk } := by
  have lk : kvs.length = vs.length := Paired.length kv
  have hSn : S ∉ as := fun z => Nat.lt_irrefl _ (hG.above _ z)
  have nd : as.Nodup := List.Pairwise.imp (fun {a b} (h : a < b) => Nat.ne_of_lt h) hG.rise
  have up : ∀ t ∈ as, s.heap.objs.size ≤ t := fun t ht => Nat.le_trans hSs (Nat.le_of_lt (hG.above t ht))
  have new : ∀ t ∈ as, H t = none := fun t ht => I.hok.fresh (up t ht)
  have newS : H S = none := I.hok.fresh hSs
  have atP := putR_at as kvs (upd H S (.lst (as.map V.ref))) (by omega) nd
  have off : ∀ b, b ∉ as → b ≠ S → putR (upd H S (.lst (as.map V.ref))) as kvs b = H b := fun b h1 h2 => by rw [putR_off as kvs _ h1, upd_ne h2]
  have low : ∀ b o, s.heap.get? b = some o → b ∉ as ∧ b ≠ S := fun b o e => ⟨fun z => absurd (Heap.lt_size e) (Nat.not_lt.mpr (up b z)), Nat.ne_of_lt (Nat.lt_of_lt_of_le (Heap.lt_size e) hSs)⟩
  have kp : ∀ b u, H b = some u → (putR (upd H S (.lst (as.map V.ref))) as kvs) b = some u := fun b u e => by
    rw [off b (fun z => by rw [new b z] at e; cases e) (fun z => by rw [z, newS] at e; cases e)]
    exact e
  have eS : putR (upd H S (.lst (as.map V.ref))) as kvs S = some (.lst (as.map V.ref)) := by rw [putR_off as kvs _ hSn, upd_same]
  refine ⟨putR (upd H S (.lst (as.map V.ref))) as kvs, kp, newS, new, hSn, eS, atP, ?_⟩
  refine I.call' (ch := []) rfl ⟨fun b o q _ _ _ => hk b o q, fun b o q _ _ _ => ⟨o.slots, hk b o q⟩, fun b o q n _ => ?_, fun b o q _ => ⟨o, hk b o q⟩, fun b xs q => kp b _ q, fun b o u q => kp b _ q, fun b ps q => ⟨#[], by rw [kp b _ q]; simp⟩⟩ (fun b u q => ?_) I.bare fun b z => by simp at z
  · obtain ⟨z1, z2⟩ := low b o q
    rw [off b z1 z2]
    exact n
  · by_cases hb : b ∈ as
    · obtain ⟨j, pk, e1, e2, e3⟩ := paired_ix atP hb
      rw [e3] at q
      cases q
      obtain ⟨key, k, x, f1, f2, f3⟩ := hG.pairs j b e1
      obtain ⟨qv, g1, g2, g3⟩ := LiI.paired_get kv e2
      rw [f1] at g1
      cases g1
      have rk : RelV pk.1 key := by
        rw [g2]
        exact f2
      exact ⟨by show 2 ≤ sizeLine; decide, [key, x], .cons rk (.cons g3 .nil), ⟨_, f3, rfl, _, rfl⟩⟩
    · by_cases hb2 : b = S
      · rw [hb2] at q ⊢
        rw [eS] at q
        cases q
        refine ⟨by rw [List.length_map]; omega, acc.toList, c, by rw [hacc]; exact LiI.vals_refs as, ?_⟩
        rw [Array.toArray_toList]
        exact hS
      · rw [off b hb hb2] at q
        exact (I.hok b u q).stay (fun d v _ y => hk d v y) (fun d y => kp d _ y) fun d xs y => kp d _ y
def tListZipR (K : PySem.W.Frag) (ta tb : TE) : TE := fun σ H Q => ta σ H fun x H1 => tb σ H1 fun y H2 => ∃ (a b : Addr) (ks ys : List V), x = .ref a ∧ y = .ref b ∧ SqL K H2 a (ks) ∧ SqL K H2 b ys ∧ ks.length = ys.length ∧
  ∀ (H' : Hp) (p : Addr) (ts : List Addr), (∀ b o, H2 b = some o → H' b = some o) → H2 p = none → (∀ t ∈ ts, H2 t = none) → p ∉ ts → H' p = some (.lst (ts.map V.ref)) → Paired (fun (t : Addr) (q : V × V) => H' t = some (.tup [q.1, q.2])) ts (ks.zip ys) → Q (.ref p) H'
theorem pe_listZipR {X : Cx} {K : PySem.W.Frag} {e e2 : Expr} {ta tb : TE} {p p2 pos pos2 : Pos} (eK : X.K = K) (hcalm : X.calm = true) (hg : Gl X "list") (hm : X.mg "list" = none) (hg2 : Gl X "zip") (hm2 : X.mg "zip" = none) (ha : PE X e ta) (hb : PE X e2 tb)
    (he : starEach [.Call (.Name "zip" p2) [e, e2] [] pos2] X.env = [(false, eval (.Call (.Name "zip" p2) [e, e2] [] pos2) X.env)] := by rfl)
    (hs : starEach [e, e2] X.env = (false, eval e X.env) :: starEach [e2] X.env := by rfl) (hs2 : starEach [e2] X.env = (false, eval e2 X.env) :: starEach [] X.env := by rfl) (hpl : (backTo pos2 (starEach [e2] X.env)).any (·.1) = false := by rfl) :
    PE X (.Call (.Name "list" p) [.Call (.Name "zip" p2) [e, e2] [] pos2] [] pos) (tListZipR K ta tb) := by
  subst eK
  refine ⟨fun pins s σ H Q I h => ?_⟩
  refine wpAny_Call_Name_kw (ld_blt I hg hm PyProof.Rows.boot_list ?_ (by decide) (by decide))
  refine PyProof.Rows.callWith_type1 ?_ (by rw [he]; rfl) rfl
  rw [he]
  show wpAny _ _ (spliced [(false, eval (.Call (.Name "zip" p2) [e, e2] [] pos2) X.env)]) _ _ s
  refine Calls.spliced_cons ?_
  have pa : PA X [e, e2] (tCons ta (tCons tb tNil)) := pa_cons ha (pa_cons hb pa_nil hs2) hs
  refine wpAny_Call_Name_kw (ld_blt I hg2 hm2 PyProof.Rows.boot_zip ?_ (by decide) (by decide))
  have h' : tCons ta (tCons tb tNil) σ H fun vs H2 => ∃ (a b : Addr) (ks ys : List V), vs = [.ref a, .ref b] ∧ SqL X.K H2 a (ks) ∧ SqL X.K H2 b ys ∧ ks.length = ys.length ∧
      ∀ (H' : Hp) (p : Addr) (ts : List Addr), (∀ b o, H2 b = some o → H' b = some o) → H2 p = none → (∀ t ∈ ts, H2 t = none) → p ∉ ts → H' p = some (.lst (ts.map V.ref)) → Paired (fun (t : Addr) (q : V × V) => H' t = some (.tup [q.1, q.2])) ts (ks.zip ys) → Q (.ref p) H' := by
    refine Eq.mp ?_ h
    show tListZipR X.K ta tb σ H Q = (ta σ H fun x H1 => tb σ H1 fun y H2 => _)
    unfold tListZipR
    congr 1
    funext x H1
    congr 1
    funext y H2
    apply propext
    constructor
    · rintro ⟨a, b, ks, ys, rfl, rfl, h1, h2, h3, q⟩
      exact ⟨a, b, ks, ys, rfl, h1, h2, h3, q⟩
    · rintro ⟨a, b, ks, ys, e, h1, h2, h3, q⟩
      injection e with e1 e
      injection e with e2 _
      exact ⟨a, b, ks, ys, e1, e2, h1, h2, h3, q⟩
  refine PyProof.Rows.callWith_type1 (thn (pa.run pos2 pins s σ H _ I h') fun us s1 ⟨vs, H1, I1, r1, q1⟩ => ?_) hs hpl
  obtain ⟨a, b, ks, ys, ex, hqx, hqy, hll, q⟩ := q1
  subst ex
  cases r1 with
  | cons r rr =>
    cases rr with
    | cons r' rr =>
      cases rr
      cases r
      cases r'
      obtain ⟨its, rv, p1, z1⟩ := I1.list hqx
      obtain ⟨its2, rv2, p2, z2⟩ := I1.list hqy
      have la : a < s1.heap.objs.size := p1.lt
      have lb : b < s1.heap.objs.size := p2.lt
      refine call_zip_2 p1.isList p2.isList fun h' hz hTI hTO h1 h2 hsz hk => ?_
      refine Calls.spliced_nil ?_
      have kl : ks.length = its.length := by rw [← rv.length]
      have yl := rv2.length
      have zl : ks.length ≤ sizeLine := by
        exact z1
      have vl : (ks.zip its2).length = ks.length := by rw [List.length_zip]; omega
      refine zrl_call (s := { s1 with heap := h' }) (kvs := ks.zip its2) (xs := its.toArray) (ys := its2.toArray) (I1.ok.hd hcalm) (PySem.W.ktu_apart s1.heap.objs.size a b la lb) ⟨?_, ?_, ?_, ?_, ?_, ?_, ?_⟩ ⟨fun j k v e => ?_, ?_⟩
        ⟨hTI, h1, h2, p1.isList.at fun o e => hk _ _ e, p2.isList.at fun o e => hk _ _ e, .inl ⟨hz, _, _, hTO⟩⟩ (by rw [vl]; exact zl) fun h'' tk acc c as k hS hl hG hacc => ?_
      iterate 7 (show _ < h'.objs.size; rw [hsz]; first | omega | exact Nat.lt_add_right 5 la | exact Nat.lt_add_right 5 lb)
      · have hj := (List.getElem?_eq_some_iff.mp e).1
        rw [List.getElem?_zip_eq_some] at e
        obtain ⟨e1, e2⟩ := e
        have hi : j < ks.length := (List.getElem?_eq_some_iff.mp e1).1
        obtain ⟨u, hu, ru⟩ := rv.get (i := j) (x := k) e1
        exact ⟨u, by simpa using hu, ru, by simpa using e2⟩
      · left
        rw [vl, kl]
        exact Array.getElem?_eq_none (by simp)
      · have kk : ∀ b o, s1.heap.get? b = some o → h''.get? b = some o := fun b o e => by
          have hb : b < s1.heap.objs.size := Heap.lt_size e
          refine k b o (fun mb => ?_) (hk _ _ e)
          have : b = s1.heap.objs.size + 4 ∨ b = s1.heap.objs.size + 3 ∨ b = s1.heap.objs.size ∨ b = s1.heap.objs.size + 1 := by simpa using mb
          rcases this with z | z | z | z
          · exact absurd hb (by rw [z]; exact Nat.not_lt.mpr (Nat.le_add_right _ _))
          · exact absurd hb (by rw [z]; exact Nat.not_lt.mpr (Nat.le_add_right _ _))
          · exact absurd hb (by rw [z]; exact Nat.lt_irrefl _)
          · exact absurd hb (by rw [z]; exact Nat.not_lt.mpr (Nat.le_add_right _ _))
        obtain ⟨H', k1, k2, k3, k4, k5, k6, J⟩ := items_laidR (tk := tk) (kvs := ks.zip ys) I1 (by rw [List.length_zip]; omega) (kvr_zip rv2) (by show s1.heap.objs.size ≤ h'.objs.size; rw [hsz]; omega) kk hS hl hG hacc
        exact ⟨.ref _, H', J, rfl, q H' _ as k1 k2 k3 k4 k5 k6⟩
end LK
set_option Elab.async false
set_option linter.all false
set_option maxRecDepth 100000
set_option maxHeartbeats 1000000
set_option exponentiation.threshold 20000
/-! LK255: exceptions in the heap: predicates and readings -/
namespace LK
open PySem PySem.Spec L2
open PyProof.Rows hiding St
structure ExI (K : PySem.W.Frag) (cs : List Addr) (G : Hp) (x : Addr) (n : Nat) : Prop where
  lt : n < 31
  ec : ExcC K (clsL cs n)
  at_ : ∃ d, G x = some (exo x (clsL cs n) d) ∧ ∀ dx, d = some dx → ∃ fs, G dx = some (exd dx fs)
structure ExF (K : PySem.W.Frag) (cs : List Addr) (G : Hp) (x : Addr) (n : Nat) (fs : List (Str × PyData)) : Prop where
  lt : n < 31
  ec : ExcC K (clsL cs n)
  xf : XfC K (clsL cs n)
  nf : ∀ e ∈ fs, PySem.W.findIn K (.ref (clsL cs n)) e.1 = some none
  at_ : ∃ dx ws, G x = some (exo x (clsL cs n) (some dx)) ∧ G dx = some (exd dx ws) ∧ ∀ e ∈ fs, ∃ v, ws.lookup e.1 = some v ∧ D K G v e.2
section
variable {K : PySem.W.Frag} {cs : List Addr} {G G' : Hp} {x : Addr} {n : Nat} {fs : List (Str × PyData)}
theorem ExI.mono (h : ExI K cs G x n) (s : Same G G') : ExI K cs G' x n := by
  obtain ⟨d, h1, h2⟩ := h.at_
  exact ⟨h.lt, h.ec, d, s _ _ h1, fun dx e => by
    obtain ⟨fs, h3⟩ := h2 dx e
    exact ⟨fs, s _ _ h3⟩⟩
theorem ExF.mono (h : ExF K cs G x n fs) (s : Same G G') : ExF K cs G' x n fs := by
  obtain ⟨dx, ws, h1, h2, h3⟩ := h.at_
  exact ⟨h.lt, h.ec, h.xf, h.nf, dx, ws, s _ _ h1, s _ _ h2, fun e m => by
    obtain ⟨v, e1, e2⟩ := h3 e m
    exact ⟨v, e1, e2.mono s⟩⟩
theorem ExF.i (h : ExF K cs G x n fs) : ExI K cs G x n := by
  obtain ⟨dx, ws, h1, h2, _⟩ := h.at_
  exact ⟨h.lt, h.ec, some dx, h1, fun d e => by
    injection e with e
    subst e
    exact ⟨ws, h2⟩⟩
end
theorem lookup_nodup {k : Str} {v : V} : ∀ {l : List (Str × V)}, (l.map (·.1)).Nodup → (k, v) ∈ l → l.lookup k = some v
  | [], _, m => nomatch m
  | e :: l, nd, m => by
    rw [List.map_cons, List.nodup_cons] at nd
    rcases List.mem_cons.mp m with e1 | m
    · subst e1
      simp [List.lookup]
    · have ne : k ≠ e.1 := fun z => nd.1 (by rw [← z]; exact List.mem_map_of_mem (f := (·.1)) m)
      have b : (k == e.1) = false := by simpa using ne
      simp only [List.lookup, b]
      exact lookup_nodup nd.2 m
section
variable {K : PySem.W.Frag} {cs : List Addr} {a x : Addr} {S : List Addr} {σ : L2.St} {G H : Hp} {te ta tb : TE} {t tk tr : TA} {C : Addr} {i j n k : Nat} {f : Str} {fs : List Str} {ds : List PyData} {d : PyData} {E : XK} {Dn : Ends}
/-! ### isinstance -/
theorem ev_isV (T : XAll K cs) (hi : σ[i]? = some (some (.ref x))) (h : ExI K cs G x n) (hj : j < 31) : Ev K a G (tCB (rIsV K) (tCons (tVar i) (tCons (tC (.ref (clsL cs j))) tNil))) σ (· = .bool (relB n j)) := fun S H1 f s Q q => by
  obtain ⟨d, h1, h2⟩ := h.at_
  refine ⟨.ref x, hi, x, clsL cs n, d, .ref (clsL cs j), relB n j, rfl, (off_some (s _ _ h1)).2, h.ec, fun dx e => ?_, .inl ⟨.ref (clsL cs j), .own _, T.kit n j h.lt hj⟩, q _ _ H1 Ext.refl (.bl _) rfl⟩
  obtain ⟨fs, h3⟩ := h2 dx e
  exact ⟨fs, (off_some (s _ _ h3)).2⟩
theorem ev_isVT {z : String} {t : Nat} (T : XAll K cs) (hi : σ[i]? = some (some (.ref x))) (h : ExI K cs G x n) (ht : t < 6) (hz : tyN.getD t "" = z) : Ev K a G (tCB (rIsV K) (tCons (tVar i) (tCons (tC (.ty z)) tNil))) σ (· = .bool (relT n t)) := fun S H1 f s Q q => by
  obtain ⟨d, h1, h2⟩ := h.at_
  refine ⟨.ref x, hi, x, clsL cs n, d, .ty z, relT n t, rfl, (off_some (s _ _ h1)).2, h.ec, fun dx e => ?_, .inl ⟨.type z, .ty _, by rw [← hz]; exact T.kitT n t h.lt ht⟩, q _ _ H1 Ext.refl (.bl _) rfl⟩
  obtain ⟨fs, h3⟩ := h2 dx e
  exact ⟨fs, (off_some (s _ _ h3)).2⟩
theorem ev_isVP {y z : String} {t u : Nat} (T : XAll K cs) (hi : σ[i]? = some (some (.ref x))) (h : ExI K cs G x n) (ht : t < 6) (hu : u < 6) (hy : tyN.getD t "" = y) (hz : tyN.getD u "" = z) (n1 : relT n t = false) : Ev K a G (tCB (rIsV K) (tCons (tVar i) (tCons (tTup (tCons (tC (.ty y)) (tCons (tC (.ty z)) tNil))) tNil))) σ (· = .bool (relT n u)) := fun S H1 f s Q q => by
  obtain ⟨d, h1, h2⟩ := h.at_
  refine ⟨.ref x, hi, by show 2 ≤ sizeLine; decide, fun p hp => ?_⟩
  have k1 := T.kitT n t h.lt ht
  have k2 := T.kitT n u h.lt hu
  rw [hy, n1] at k1
  rw [hz] at k2
  have key : PySem.W.kitAny K (.ref (clsL cs n)) [.type y, .type z] = some (relT n u) := by
    cases e : relT n u with
    | false =>
      rw [e] at k2
      exact kitAny_cons k1 (fun _ => kitAny_cons k2 (fun _ => kitAny_nil) nofun) nofun
    | true =>
      rw [e] at k2
      exact kitAny_cons k1 (fun _ => kitAny_cons k2 nofun fun _ => rfl) nofun
  have nx : (off S H1) x = some (exo x (clsL cs n) d) := s _ _ h1
  refine ⟨x, clsL cs n, d, .ref p, relT n u, rfl, ?_, h.ec, fun dx e => ?_, .inr ⟨p, [.ty y, .ty z], [.type y, .type z], rfl, upd_same, .cons (.ty _) (.cons (.ty _) .nil), key⟩, q _ _ _ (Ext.new hp) (.bl _) rfl⟩
  · have := (off_some nx).2
    rw [upd_ne (ne_of_none this hp)]
    exact this
  · obtain ⟨fs, h3⟩ := h2 dx e
    have := (off_some (s _ _ h3)).2
    exact ⟨fs, by rw [upd_ne (ne_of_none this hp)]; exact this⟩
/-! ### e.f -/
theorem ev_xgV {fs : List (Str × PyData)} (hi : σ[i]? = some (some (.ref x))) (h : ExF K cs G x n fs) (m : (f, d) ∈ fs) : Ev K a G (tXgV K f (tVar i)) σ (· = d) := fun S H1 fr s Q q => by
  obtain ⟨dx, ws, h1, h2, h3⟩ := h.at_
  obtain ⟨v, e1, e2⟩ := h3 _ m
  exact ⟨.ref x, hi, x, clsL cs n, dx, ws, v, rfl, (off_some (s _ _ h1)).2, h.xf, h.nf _ m, (off_some (s _ _ h2)).2, e1, q v d H1 Ext.refl (e2.mono s) rfl⟩
/-! ### making -/
theorem mk_core {Q : VK} {ws : List V} (fr : Fr a S H) (hC : clsL cs k = C) (hk : k < 31) (ec : ExcC K C) (xf : XfC K C) (nf : ∀ f ∈ fs, PySem.W.findIn K (.ref C) f = some none) (nd : fs.Nodup) (m : DA K (off S H) ws ds) (hl : ds.length = fs.length) (q : ∀ x H', Ext a H H' → Fr a S H' → H x = none → ExF K cs (off S H') x k (fs.zip ds) → Q (.ref x) H') :
    ∀ x, H x = none → spIV C fs (.ref x :: ws) (upd H x (exo x C none)) (fun v H3 => v = .non ∧ Q (.ref x) H3) E := fun x nx => by
  subst hC
  have lw : ws.length = fs.length := m.length.trans hl
  refine ⟨x, ws, rfl, lw, upd_same, fun dx ndx ne => ⟨rfl, ?_⟩⟩
  have ndx' : H dx = none := by rwa [upd_ne ne] at ndx
  obtain ⟨H', eH'⟩ : ∃ H', upd (upd (upd H x (exo x (clsL cs k) none)) dx (exd dx (fs.zip ws).reverse)) x (exo x (clsL cs k) (some dx)) = H' := ⟨_, rfl⟩
  rw [eH']
  have hx : H' x = some (exo x (clsL cs k) (some dx)) := by rw [← eH']; exact upd_same
  have hdx : H' dx = some (exd dx (fs.zip ws).reverse) := by
    rw [← eH', upd_ne ne]
    exact upd_same
  have sm : Same H H' := fun b o e => by
    have b1 := ne_of_none e nx
    have b2 := ne_of_none e ndx'
    rw [← eH', upd_ne b1, upd_ne b2, upd_ne b1]
    exact e
  have xt := Ext.of_same (a := a) sm
  have sf := xt.off fr.mem
  refine q x H' xt (fr.ext xt) nx ⟨hk, ec, xf, fun e me => nf _ (List.of_mem_zip me).1, dx, _, off_mk (fr.out nx) hx, off_mk (fr.out ndx') hdx, fun e me => ?_⟩
  obtain ⟨i, hi, rfl⟩ := List.mem_iff_getElem.mp me
  rw [List.length_zip] at hi
  rw [List.getElem_zip]
  have hw : i < ws.length := by omega
  refine ⟨ws[i], lookup_nodup ?_ ?_, ?_⟩
  · rw [List.map_reverse]
    refine (List.reverse_perm _).nodup_iff.mpr ?_
    rw [List.map_fst_zip (by omega)]
    exact nd
  · rw [List.mem_reverse, List.mem_iff_getElem]
    exact ⟨i, by rw [List.length_zip]; omega, by rw [List.getElem_zip]⟩
  · obtain ⟨d', e1, e2⟩ := (m.mono sf).getV (List.getElem?_eq_getElem hw)
    rw [List.getElem?_eq_getElem (by omega)] at e1
    injection e1 with e1
    rw [e1]
    exact e2
theorem rd_mkP {Q : VK} {nm : Nat} (ha : EvA K a G t σ (· = ds)) (hn : ds.length = nm) (hC : clsL cs k = C) (hk : k < 31) (ec : ExcC K C) (xf : XfC K C) (nf : ∀ f ∈ fs, PySem.W.findIn K (.ref C) f = some none) (nd : fs.Nodup) (hl : ds.length = fs.length) (fr : Fr a S H) (s : Same G (off S H))
    (q : ∀ x H', Ext a H H' → Fr a S H' → ExF K cs (off S H') x k (fs.zip ds) → Q (.ref x) H') : tMkX C nm 0 (spIV C fs) (fun vs _ => vs) t tNil σ H Q :=
  ha S H fr s _ fun vs ds' H2 x2 m e => by
    subst e
    exact ⟨m.length.trans hn, rfl, mk_core (fr.ext x2) hC hk ec xf nf nd m hl fun x H' x' f' _ h => q x H' (x2.trans x') f' h⟩
theorem DA.rot {G : Hp} {ws : List V} {ds : List PyData} (m : DA K G ws ds) : DA K G (ws.drop 1 ++ ws.take 1) (ds.drop 1 ++ ds.take 1) := by
  cases m with
  | nil => exact .nil
  | cons h t => exact DA.append t (.cons h .nil)
theorem rd_mkK {Q : VK} {nm : Nat} (ha : EvA K a G tk σ (· = ds)) (hn : ds.length = nm) (hC : clsL cs k = C) (hk : k < 31) (ec : ExcC K C) (xf : XfC K C) (nf : ∀ f ∈ fs, PySem.W.findIn K (.ref C) f = some none) (nd : fs.Nodup) (hl : ds.length = fs.length) (fr : Fr a S H) (s : Same G (off S H))
    (q : ∀ x H', Ext a H H' → Fr a S H' → ExF K cs (off S H') x k (fs.zip (ds.drop 1 ++ ds.take 1)) → Q (.ref x) H') : tMkX C 0 nm (spIV C fs) (fun vs zs => vs ++ (zs.drop 1 ++ zs.take 1)) tNil tk σ H Q :=
  ha S H fr s _ fun vs ds' H2 x2 m e => by
    subst e
    exact ⟨rfl, m.length.trans hn, mk_core (fr.ext x2) hC hk ec xf nf nd m.rot (by rw [List.length_append, List.length_drop, List.length_take]; omega) fun x H' x' f' _ h => q x H' (x2.trans x') f' h⟩
/-! ### several of one field -/
def PX (K : PySem.W.Frag) (cs : List Addr) (G : Hp) (f : Str) (d : PyData) (n : Nat) (v : V) : Prop := ∃ x, v = .ref x ∧ ExF K cs G x n [(f, d)]
abbrev AX (K : PySem.W.Frag) (cs : List Addr) (G : Hp) (f : Str) (d : PyData) (ns : List Nat) (vs : List V) : Prop := Paired (fun n v => PX K cs G f d n v) ns vs
theorem PX.mono {G' : Hp} {v : V} (h : PX K cs G f d n v) (s : Same G G') : PX K cs G' f d n v := by
  obtain ⟨x, e, h⟩ := h
  exact ⟨x, e, h.mono s⟩
theorem AX.mono {G G' : Hp} : ∀ {ns : List Nat} {vs : List V}, AX K cs G f d ns vs → Same G G' → AX K cs G' f d ns vs
  | _, _, .nil, _ => .nil
  | _, _, .cons h t, s => .cons (h.mono s) (AX.mono t s)
def EvX1 (K : PySem.W.Frag) (cs : List Addr) (a : Addr) (G : Hp) (te : TE) (σ : L2.St) (f : Str) (d : PyData) (n : Nat) : Prop := ∀ S H1, Fr a S H1 → Same G (off S H1) → ∀ Q : VK, (∀ v H2, Ext a H1 H2 → PX K cs (off S H2) f d n v → Q v H2) → te σ H1 Q
def EvX (K : PySem.W.Frag) (cs : List Addr) (a : Addr) (G : Hp) (tr : TA) (σ : L2.St) (f : Str) (d : PyData) (ns : List Nat) : Prop := ∀ S H1, Fr a S H1 → Same G (off S H1) → ∀ Q : List V → Hp → Prop, (∀ vs H2, Ext a H1 H2 → AX K cs (off S H2) f d ns vs → Q vs H2) → tr σ H1 Q
theorem evx_nil : EvX K cs a G tNil σ f d [] := fun S H1 fr s Q q => q [] H1 Ext.refl .nil
theorem evx_cons {ns : List Nat} (h : EvX1 K cs a G te σ f d n) (t : EvX K cs a G tr σ f d ns) : EvX K cs a G (tCons te tr) σ f d (n :: ns) := fun S H1 fr s Q q =>
  h S H1 fr s _ fun v H2 x2 p => t S H2 (fr.ext x2) (fr.same x2 s) _ fun vs H3 x3 ax => q (v :: vs) H3 (x2.trans x3) (.cons (p.mono (x3.off (fr.ext x2).mem)) ax)
theorem evx_p (h : Ev K a G te σ (· = d)) (hC : clsL cs n = C) (hn : n < 31) (ec : ExcC K C) (xf : XfC K C) (nf : PySem.W.findIn K (.ref C) f = some none) : EvX1 K cs a G (tMkX C 1 0 (spIV C [f]) (fun vs _ => vs) (tCons te tNil) tNil) σ f d n := fun S H1 fr s Q q =>
  rd_mkP (ea_eq h ea_nil) rfl hC hn ec xf (fun f' m => by rw [List.mem_singleton.mp m]; exact nf) (by simp) rfl fr s fun x H' x' _ ex => q _ H' x' ⟨x, rfl, ex⟩
theorem evx_k (h : Ev K a G te σ (· = d)) (hC : clsL cs n = C) (hn : n < 31) (ec : ExcC K C) (xf : XfC K C) (nf : PySem.W.findIn K (.ref C) f = some none) : EvX1 K cs a G (tMkX C 0 1 (spIV C [f]) (fun vs zs => vs ++ (zs.drop 1 ++ zs.take 1)) tNil (tCons te tNil)) σ f d n := fun S H1 fr s Q q =>
  rd_mkK (ea_eq h ea_nil) rfl hC hn ec xf (fun f' m => by rw [List.mem_singleton.mp m]; exact nf) (by simp) rfl fr s fun x H' x' _ ex => q _ H' x' ⟨x, rfl, ex⟩
end
end LK
set_option Elab.async false
set_option linter.all false
set_option maxRecDepth 100000
set_option maxHeartbeats 1000000
set_option exponentiation.threshold 20000
/-! LK256: promises of k18 -/
namespace LK
open PySem PySem.Spec L2
open PyProof.Rows hiding St
mutual
theorem eqv_reflV : ∀ d : PyData, noDict d = true → PyData.eqv d d = true
  | .none, _ => rfl
  | .bool b, _ => by simp [PyData.eqv]
  | .int i, _ => by simp [PyData.eqv]
  | .str x, _ => by simp [PyData.eqv]
  | .list ds, h => by
    unfold PyData.eqv
    exact eqvAll_reflV ds (by unfold noDict at h; exact h)
  | .tuple ds, h => by
    unfold PyData.eqv
    exact eqvAll_reflV ds (by unfold noDict at h; exact h)
  | .dict ds, h => by
    unfold noDict at h
    cases h
theorem eqvAll_reflV : ∀ ds : List PyData, noDictAll ds = true → PyData.eqvAll ds ds = true
  | [], _ => rfl
  | d :: ds, h => by
    unfold noDictAll at h
    rw [Bool.and_eq_true] at h
    unfold PyData.eqvAll
    rw [eqv_reflV d h.1, eqvAll_reflV ds h.2]
    rfl
end
theorem EqOk.reflV {d : PyData} (h : EqOk d) : PyData.eqv d d = true := eqv_reflV d h.nd
def flD (n : Nat) : PyData := .list (if n < 27 then [.int (n : Nat)] else [])
def baD (n : Nat) : PyData := .list [.bool (relB n 27), .bool (relT n 0), .bool (relB n 28), .bool (relT n 1), .bool (relB n 29), .bool (relT n 2), .bool (relB n 30), .bool (relT n 3), .bool (relT n 5)]
def dueL (g : Nat) : List V := ((List.replicate 9 (V.bl false)).set (2 * g) (.bl true)).set (2 * g + 1) (.bl true)
def dueB (g : Nat) : List Bool := ((List.replicate 9 false).set (2 * g) true).set (2 * g + 1) true
theorem due_all : ∀ n, n < 31 → (dueB (grpN n) = [relB n 27, relT n 0, relB n 28, relT n 1, relB n 29, relT n 2, relB n 30, relT n 3, relT n 5] ∧ grpN n < 4 ∧ relT n 4 = false) := by decide +kernel
theorem fl_all : ∀ n, n < 31 → (((List.range 27).zipIdx.filter fun q => relB n q.1).map fun q => q.2) = if n < 27 then [n] else [] := by decide +kernel
theorem fl_list {n : Nat} (h : n < 31) : PyData.list (((List.range 27).zipIdx.filter fun q => relB n q.1).map fun q => .int ((q.2 : Nat) : Int)) = flD n := by
  have := fl_all n h
  have e : (((List.range 27).zipIdx.filter fun q => relB n q.1).map fun q : Nat × Nat => PyData.int ((q.2 : Nat) : Int)) = ((((List.range 27).zipIdx.filter fun q => relB n q.1).map fun q => q.2).map fun i : Nat => PyData.int (i : Int)) := by
    rw [List.map_map]
    rfl
  rw [e, this]
  unfold flD
  split <;> rfl
theorem ba_due {n : Nat} (h : n < 31) : baD n = .list ((dueB (grpN n)).map .bool) := by
  rw [(due_all n h).1]
  rfl
theorem due_map (g : Nat) : dueL g = (dueB g).map V.bl := by
  unfold dueL dueB
  rw [List.map_set, List.map_set, List.map_replicate]
theorem bools_da {K : PySem.W.Frag} {G : Hp} : ∀ bs : List Bool, DA K G (bs.map V.bl) (bs.map .bool)
  | [] => .nil
  | b :: bs => .cons (.bl b) (bools_da bs)
theorem fl_eqOk (n : Nat) : EqOk (flD n) := by
  unfold flD
  split
  · exact ints_eqOk [((n : Nat) : Int)]
  · exact ints_eqOk []
def spFl (K : PySem.W.Frag) (cs : List Addr) (r : Nat → PyData) : Sp := fun vs H Q _ => ∃ (a : Addr) (S : List Addr) (x : Addr) (n : Nat), vs = [.ref x] ∧ Fr a S H ∧ ExI K cs (off S H) x n ∧ ∀ v H', Ext a H H' → D K (off S H') v (r n) → Q v H'
def spIs (K : PySem.W.Frag) (cs : List Addr) : Sp := fun vs H Q _ => ∃ (a : Addr) (S : List Addr) (x : Addr) (n : Nat), vs = [.ref x, .int (n : Nat)] ∧ n < 27 ∧ Fr a S H ∧ ExI K cs (off S H) x n ∧ ∀ H', Ext a H H' → Q (.bl true) H'
section
variable (P : Program) (w : World) (K : PySem.W.Frag) (mg : Str → Option Value) (base : Heap) (cs : List Addr)
abbrev FFl18 : Prop := Df P w K mg base CX0 1 "_law_flags" ["_law_e"] (spFl K cs flD)
abbrev FBa18 : Prop := Df P w K mg base CX0 1 "_law_bases" ["_law_e"] (spFl K cs baD)
abbrev FIs18 : Prop := Df P w K mg base CX0 2 "_law_is" ["_law_e", "_law_place"] (spIs K cs)
end
section
variable {K : PySem.W.Frag} {cs : List Addr} {a x : Addr} {S : List Addr} {σ : L2.St} {G H : Hp} {te ta tb : TE} {tr : TA} {i n : Nat} {E : XK} {Dn : Ends} {r : Nat → PyData}
theorem ev_fl (hi : σ[i]? = some (some (.ref x))) (h : ExI K cs G x n) : Ev K a G (tCall (spFl K cs r) [] E (tCons (tVar i) tNil)) σ (· = r n) := fun S H1 f s Q q =>
  ⟨.ref x, hi, a, S, x, n, rfl, f, h.mono s, fun v H' x' m => q v _ H' x' m rfl⟩
theorem ev_is {tn : TE} (hi : σ[i]? = some (some (.ref x))) (h : ExI K cs G x n) (hn : n < 27) (ht : Ev K a G tn σ (· = .int (n : Nat))) : Ev K a G (tCall (spIs K cs) [] E (tCons (tVar i) (tCons tn tNil))) σ (· = .bool true) := fun S H1 f s Q q =>
  ⟨.ref x, hi, ht S H1 f s _ fun v d H2 x2 m e => by
    subst e
    cases m
    exact ⟨a, S, x, n, rfl, hn, f.ext x2, h.mono (f.same x2 s), fun H' x' => q _ _ H' (x2.trans x') (.bl _) rfl⟩⟩
theorem q_repB {j n : Nat} {b : Bool} (ha : Ev K a G ta σ (· = .list [.bool b])) (hb : Ev K a G tb σ (· = .int (n : Nat))) (hn : n ≤ 1000) (f : Fr a S H) (s : Same G (off S H))
    (q : ∀ L H', Ext a H H' → Fr a (L :: S) H' → H L = none → H' L = some (.lst (List.replicate n (V.bl b))) → Dn.nx (σ.set j (some (.ref L))) H') : tAsg (tOp rMulA ta tb) (gName j) Dn σ H :=
  ha S H f s _ fun v d H2 x2 m e => hb S H2 (f.ext x2) (f.same x2 s) _ fun w d' H3 x3 m3 e' => by
    subst e e'
    cases m3
    have m := m.mono (x3.off f.mem)
    cases m with
    | @lst t vs _ h1 n1 =>
      obtain ⟨v1, rfl, m1⟩ := DA.one n1
      cases m1
      refine .inr (.inr ⟨t, (n : Nat), [.bl b], rfl, rfl, off_le _ _ h1, by omega, by omega, ?_, fun p hp => ?_⟩)
      · show 1 * n ≤ _
        rw [Nat.one_mul]
        exact Nat.le_trans hn (by decide)
      · have x23 := x2.trans x3
        have f3 := f.ext x23
        show Dn.nx _ (upd H3 p (.lst (List.replicate ((n : Int)).toNat [V.bl b]).flatten))
        rw [rep_one, Int.toNat_natCast]
        exact q p _ (x23.trans (Ext.new hp)) ((f3.upd (f3.ne hp)).push upd_same) (x23.fresh hp (f3.ne hp)) upd_same
end
end LK
set_option Elab.async false
set_option linter.all false
set_option maxRecDepth 100000
set_option maxHeartbeats 1000000
set_option exponentiation.threshold 20000
/-! LK258: lists of exceptions: made, joined, appended to, walked beside their places -/
namespace LK
open PySem PySem.Spec L2
open PyProof.Rows hiding St
section
variable {K : PySem.W.Frag} {cs : List Addr} {a x L M1 M2 : Addr} {S : List Addr} {σ : L2.St} {G H : Hp} {te ta tb : TE} {tr : TA} {i j n : Nat} {E : XK} {Dn : Ends} {f : Str} {d : PyData} {ns ms : List Nat} {vs ws : List V}
theorem AX.len : ∀ {ns : List Nat} {vs : List V}, AX K cs G f d ns vs → vs.length = ns.length
  | _, _, .nil => rfl
  | _, _, .cons _ t => congrArg Nat.succ (AX.len t)
theorem AX.append : ∀ {ns ms : List Nat} {vs ws : List V}, AX K cs G f d ns vs → AX K cs G f d ms ws → AX K cs G f d (ns ++ ms) (vs ++ ws)
  | _, _, _, _, .nil, h => h
  | _, _, _, _, .cons h t, h2 => .cons h (AX.append t h2)
theorem q_lstX (h : EvX K cs a G tr σ f d ns) (hn : ns.length ≤ 100) (fr : Fr a S H) (s : Same G (off S H))
    (q : ∀ L vs H', Ext a H H' → Fr a (L :: S) H' → H L = none → L ≠ a → H' L = some (.lst vs) → AX K cs (off (L :: S) H') f d ns vs → Dn.nx (σ.set j (some (.ref L))) H') : tAsg (tLst tr) (gName j) Dn σ H :=
  h S H fr s _ fun vs H2 x2 ax => ⟨by rw [ax.len]; exact Nat.le_of_lt (small1000 (by omega)), fun p np => by
    have f2 := fr.ext x2
    have pa := f2.ne np
    have x3 := x2.trans (Ext.new (o := .lst vs) np)
    exact q p vs _ x3 ((f2.upd pa).push upd_same) (x2.fresh np pa) pa upd_same (by rw [off_upd List.mem_cons_self]; exact ax.mono (same_off_push np (Same.refl _)))⟩
theorem q_catX (hi : σ[i]? = some (some (.ref L))) (hL : H L = some (.lst vs)) (hLa : L ≠ a) (ax : AX K cs (off S H) f d ns vs) (h : EvX K cs a G tr σ f d ms) (hn : ns.length ≤ 100) (hm : ms.length ≤ 100) (fr : Fr a S H) (s : Same G (off S H))
    (q : ∀ L' us H', Ext a H H' → Fr a (L' :: S) H' → H L' = none → L' ≠ a → H' L' = some (.lst us) → AX K cs (off (L' :: S) H') f d (ns ++ ms) us → Dn.nx (σ.set j (some (.ref L'))) H') : tAsg (tOp (rAddA K) (tVar i) (tLst tr)) (gName j) Dn σ H :=
  ⟨.ref L, hi, h S H fr s _ fun ws H2 x2 aw => ⟨by rw [aw.len]; exact Nat.le_of_lt (small1000 (by omega)), fun p np => by
    have f2 := fr.ext x2
    have pa := f2.ne np
    have x3 := x2.trans (Ext.new (o := .lst ws) np)
    have f3 := fr.ext x3
    have h3 : upd H2 p (.lst ws) L = some (.lst vs) := x3.keep _ _ hLa hL
    have a3 : AX K cs (off S (upd H2 p (.lst ws))) f d ms ws := aw.mono ((Ext.new np).off f2.mem)
    have h4 : upd H2 p (.lst ws) p = some (.lst ws) := upd_same
    generalize upd H2 p (.lst ws) = H3 at x3 f3 h3 a3 h4
    refine .inr (.inr (.inl ⟨L, p, vs, ws, rfl, rfl, h3, h4, ?_, fun p' np' => ?_⟩))
    · rw [ax.len, aw.len]
      exact Nat.le_of_lt (small1000 (by omega))
    · have pa' := f3.ne np'
      have x4 := x3.trans (Ext.new (o := .lst (vs ++ ws)) np')
      exact q p' _ _ x4 ((f3.upd pa').push upd_same) (x3.fresh np' pa') pa' upd_same (by rw [off_upd List.mem_cons_self]; exact ((ax.mono (x3.off fr.mem)).append a3).mono (same_off_push np' (Same.refl _)))⟩⟩
theorem q_appX (hi : σ[i]? = some (some (.ref L))) (hL : H L = some (.lst vs)) (hLa : L ≠ a) (LS : L ∈ S) (ax : AX K cs (off S H) f d ns vs) (h : EvX1 K cs a G te σ f d n) (hn : ns.length ≤ 100) (fr : Fr a S H) (s : Same G (off S H))
    (q : ∀ us H', Fr a S H' → Same (off S H) (off S H') → (∀ b o, b ≠ L → b ≠ a → H b = some o → H' b = some o) → (∀ H0, Ext a H0 H → H0 L = none → Ext a H0 H') → H' L = some (.lst us) → AX K cs (off S H') f d (ns ++ [n]) us → Dn.nx σ H') : tDrop (tBM K "list" rAppend (tVar i) (tCons te tNil)) Dn σ H :=
  ⟨.ref L, hi, .inl ⟨rfl, _, SqL.of hL⟩, h S H fr s _ fun v H2 x2 p => ⟨L, vs, v, rfl, rfl, x2.keep _ _ hLa hL, by rw [ax.len]; exact Nat.lt_of_le_of_lt hn (by decide), by
    have s2 := x2.off fr.mem
    refine q (vs ++ [v]) _ ((fr.ext x2).upd hLa) (by rw [off_upd LS]; exact s2) (fun b o b1 b2 e => by rw [upd_ne b1]; exact x2.keep _ _ b2 e) (fun H0 x0 n0 => (x0.trans x2).store n0 hLa) upd_same ?_
    rw [off_upd LS]
    exact (ax.mono s2).append (.cons p .nil)⟩⟩
/-! ### beside their places -/
theorem ax_pairs : ∀ {ns : List Nat} {vs : List V}, AX K cs G f d ns vs → ∀ q ∈ vs.zip (ns.map fun n : Nat => V.int (n : Nat)), ∃ n, n ∈ ns ∧ q.2 = .int (n : Nat) ∧ PX K cs G f d n q.1
  | _, _, .nil, q, m => nomatch m
  | n :: ns, v :: vs, .cons h t, q, m => by
    rw [List.map_cons, List.zip_cons_cons] at m
    rcases List.mem_cons.mp m with rfl | m
    · exact ⟨n, List.mem_cons_self, rfl, h⟩
    · obtain ⟨n', m', e, p⟩ := ax_pairs t q m
      exact ⟨n', List.mem_cons_of_mem _ m', e, p⟩
theorem ints_ofV : ∀ {vs : List V}, DA K G vs (ns.map fun n : Nat => PyData.int (n : Nat)) → vs = ns.map fun n : Nat => V.int (n : Nat) := by
  intro vs h
  induction ns generalizing vs with
  | nil => cases h; rfl
  | cons n ns ih =>
    cases h with
    | cons h t =>
      cases h
      rw [List.map_cons, ih t]
def Pairs (K : PySem.W.Frag) (cs : List Addr) (S : List Addr) (H : Hp) (f : Str) (d : PyData) (ns : List Nat) (us : List V) : Prop := ∀ u ∈ us, ∃ (t y : Addr) (n : Nat), u = .ref t ∧ H t = some (.tup [.ref y, .int (n : Nat)]) ∧ n ∈ ns ∧ ExF K cs (off S H) y n [(f, d)]
theorem Pairs.ext {us : List V} {H' : Hp} (h : Pairs K cs S H f d ns us) (fr : Fr a S H) (x : Ext a H H') : Pairs K cs S H' f d ns us := fun u m => by
  obtain ⟨t, y, n, e, ht, mn, ex⟩ := h u m
  refine ⟨t, y, n, e, x.keep _ _ (fun z => ?_) ht, mn, ex.mono (x.off fr.mem)⟩
  obtain ⟨p, q, e1, _⟩ := fr.pot
  rw [z, e1] at ht
  cases ht
theorem rd_zipX {Q : VK} {v3 : V} {i3 : Nat} (hi : σ[i]? = some (some (.ref L))) (hL : H L = some (.lst vs)) (hLa : L ≠ a) (ax : AX K cs (off S H) f d ns vs) (h3 : σ[i3]? = some (some v3)) (m3 : D K (off S H) v3 (.list (ns.map fun n : Nat => .int (n : Nat)))) (hn : ns.length ≤ 100) (fr : Fr a S H)
    (q : ∀ p us H', Ext a H H' → Fr a S H' → H p = none → H' p = some (.lst us) → us.length = ns.length → Pairs K cs S H' f d ns us → Q (.ref p) H') : tListZipR K (tVar i) (tVar i3) σ H Q := by
  cases m3 with
  | @lst P ys _ hP my =>
    obtain rfl := ints_ofV my
    refine ⟨.ref L, hi, .ref P, h3, L, P, vs, _, rfl, rfl, SqL.of hL, SqL.of (off_some hP).2, by rw [List.length_map, ax.len], fun H' p ts keep np nts pts hp pair => ?_⟩
    have xt := Ext.of_same (a := a) keep
    have lt : ts.length = ns.length := by
      rw [Paired.length pair, List.length_zip, List.length_map, ax.len, Nat.min_self]
    refine q p _ H' xt (fr.ext xt) np hp (by rw [List.length_map, lt]) fun u mu => ?_
    obtain ⟨t, mt, rfl⟩ := List.mem_map.mp mu
    obtain ⟨j, pk, e1, e2, e3⟩ := LiI.paired_ix pair mt
    obtain ⟨n, mn, en, y, ey, ex⟩ := ax_pairs ax pk (List.mem_of_getElem? e2)
    refine ⟨t, y, n, rfl, ?_, mn, ex.mono (xt.off fr.mem)⟩
    rw [e3, ey, en]
theorem q_forXX {s0 v3 : V} {y4 y5 : Option V} {tb : TS} (hL1 : H M1 = some (.lst vs)) (n1 : M1 ≠ a) (ax1 : AX K cs (off S H) f d ns vs) (hL2 : H M2 = some (.lst ws)) (n2 : M2 ≠ a) (ax2 : AX K cs (off S H) f d ns ws) (m3 : D K (off S H) v3 (.list (ns.map fun n : Nat => .int (n : Nat)))) (hn : ns.length ≤ 100) (fr : Fr a S H)
    (step : ∀ (y : Addr) (n : Nat) (H' : Hp) (Dn' : Ends), n ∈ ns → ExF K cs (off S H') y n [(f, d)] → Ext a H H' → Fr a S H' → (∀ H'', Ext a H' H'' → Fr a S H'' → Dn'.nx [some s0, some (.ref M1), some (.ref M2), some v3, some (.ref y), some (.int (n : Nat))] H'') → Dn'.rt = Dn.rt → tb Dn' [some s0, some (.ref M1), some (.ref M2), some v3, some (.ref y), some (.int (n : Nat))] H')
    (done : ∀ y4 y5 H', Ext a H H' → Fr a S H' → Dn.nx [some s0, some (.ref M1), some (.ref M2), some v3, y4, y5] H') :
    tFor (iList K (tOp (rAddA K) (tListZipR K (tVar 1) (tVar 3)) (tListZipR K (tVar 2) (tVar 3)))) (gTup K 2 (gCons (gName 4) (gCons (gName 5) gNil))) tb Dn [some s0, some (.ref M1), some (.ref M2), some v3, y4, y5] H := by
  unfold tFor iList tOp
  dsimp only
  refine rd_zipX (K := K) (σ := [some s0, some (.ref M1), some (.ref M2), some v3, y4, y5]) (i := 1) (i3 := 3) rfl hL1 n1 ax1 rfl m3 hn fr fun p1 us1 H1 x1 f1 np1 hp1 l1 pr1 => ?_
  have s1 := x1.off fr.mem
  refine rd_zipX (K := K) (σ := [some s0, some (.ref M1), some (.ref M2), some v3, y4, y5]) (i := 2) (i3 := 3) rfl (x1.keep _ _ n2 hL2) n2 (ax2.mono s1) rfl (m3.mono s1) hn f1 fun p2 us2 H2 x2 f2 np2 hp2 l2 pr2 => ?_
  have p1a : p1 ≠ a := fun z => by
    obtain ⟨p, q, e1, _⟩ := fr.pot
    rw [z, e1] at np1
    cases np1
  have pr1 := pr1.ext f1 x2
  refine .inr (.inr (.inl ⟨p1, p2, us1, us2, rfl, rfl, x2.keep _ _ p1a hp1, hp2, ?_, fun p np => ?_⟩))
  · rw [l1, l2]
    exact Nat.le_of_lt (small1000 (by omega))
  have pa := f2.ne np
  have x3 : Ext a H2 (upd H2 p (.lst (us1 ++ us2))) := Ext.new np
  have f3 := f2.ext x3
  have hp3 : upd H2 p (.lst (us1 ++ us2)) p = some (.lst (us1 ++ us2)) := upd_same
  have pr1 := pr1.ext f2 x3
  have pr2 := pr2.ext f2 x3
  have x03 := (x1.trans x2).trans x3
  generalize upd H2 p (.lst (us1 ++ us2)) = H3 at x3 f3 hp3 pr1 pr2 x03 ⊢
  refine ⟨p, rfl, ⟨_, SqL.of hp3⟩, for_it (walk_list (xs := us1 ++ us2) (K := K) (a := p)) (fun i σ' H' => ∃ y4 y5, σ' = [some s0, some (.ref M1), some (.ref M2), some v3, y4, y5] ∧ Ext a H3 H' ∧ Fr a S H') ⟨_, _, rfl, Ext.refl, f3⟩ (fun i σ' H' _ ⟨_, _, _, x', _⟩ => SqL.of (x'.keep _ _ pa hp3)) (fun i u σ' H' H'' hi pv y => ?_) fun σ' H' ⟨y4, y5, e, x', f'⟩ => by
    subst e
    exact done y4 y5 H' (x03.trans x') f'⟩
  obtain ⟨e, hu⟩ := y
  subst e
  obtain ⟨y4, y5, rfl, x', f'⟩ := pv
  have mu := List.mem_of_getElem? hu
  have : ∃ (t y : Addr) (n : Nat), u = .ref t ∧ H3 t = some (.tup [.ref y, .int (n : Nat)]) ∧ n ∈ ns ∧ ExF K cs (off S H3) y n [(f, d)] := by
    rcases List.mem_append.mp mu with m | m
    · exact pr1 u m
    · exact pr2 u m
  obtain ⟨t, y, n, rfl, ht, mn, ex⟩ := this
  have ta : t ≠ a := fun z => by
    obtain ⟨p, q, e1, _⟩ := f3.pot
    rw [z, e1] at ht
    cases ht
  refine ⟨t, _, rfl, .inl (.inl (x'.keep _ _ ta ht)), rfl, _, _, rfl, _, _, rfl, rfl, ?_⟩
  exact step y n _ _ mn (ex.mono (x'.off f3.mem)) (x03.trans x') f' (fun H'' x'' f'' => ⟨_, _, rfl, x'.trans x'', f''⟩) rfl
end
end LK
set_option Elab.async false
set_option linter.all false
set_option maxRecDepth 100000
set_option maxHeartbeats 1000000
set_option exponentiation.threshold 20000
/-! LK259: tuples of two exceptions walked; exceptions without fields; calls without arguments -/
namespace LK
open PySem PySem.Spec L2
open PyProof.Rows hiding St
section
variable {X : Cx} {CX : CXT} {k : Nat} {sp : Sp} {E : XK} {x : Str} {p pos : Pos}
theorem pe_fn0 (F : Df X.prog X.w X.K X.mg X.base CX k x [] sp) (hg : NoG X.A) (hr : Room k X.A) (hgl : Gl X x) (hx : Passes CX X E) (hdb : (x == ("__debug__" : Str)) = false := by decide) : PE X (.Call (.Name x p) [] [] pos) (tCall sp [] E tNil) := by
  obtain ⟨f, fd, G, hm, hk, hb⟩ := F.ex
  refine ⟨fun pins s σ H Q I h => ?_⟩
  refine wpAny_Call_Name_kw (ld_glob I hgl hm ?_ hdb)
  have h' : sp [] H Q E := by simpa [tCall, tNil] using h
  have b := hb s [] I.kIn rfl
  exact PySem.W.callWith_K0 I.kIn hk (run_g (us := []) (ws := []) G hg hr (by simpa using b) hx I .nil h')
end
section
variable {K : PySem.W.Frag} {cs : List Addr} {a x L : Addr} {S : List Addr} {σ : L2.St} {G H : Hp} {te ta tb t1 t2 : TE} {tr : TA} {i j n : Nat} {E : XK} {Dn : Ends} {f : Str} {d : PyData} {fs : List (Str × PyData)}
def EvM (K : PySem.W.Frag) (cs : List Addr) (a : Addr) (G : Hp) (te : TE) (σ : L2.St) (n : Nat) (fs : List (Str × PyData)) : Prop := ∀ S H1, Fr a S H1 → Same G (off S H1) → ∀ Q : VK, (∀ x H2, Ext a H1 H2 → ExF K cs (off S H2) x n fs → Q (.ref x) H2) → te σ H1 Q
theorem evm_p {C : Addr} {nm : Nat} {ns : List Str} {ds : List PyData} {t : TA} (ha : EvA K a G t σ (· = ds)) (hn : ds.length = nm) (hC : clsL cs n = C) (hk : n < 31) (ec : ExcC K C) (xf : XfC K C) (nf : ∀ f ∈ ns, PySem.W.findIn K (.ref C) f = some none) (nd : ns.Nodup) (hl : ds.length = ns.length) : EvM K cs a G (tMkX C nm 0 (spIV C ns) (fun vs _ => vs) t tNil) σ n (ns.zip ds) := fun S H1 fr s Q q =>
  rd_mkP ha hn hC hk ec xf nf nd hl fr s fun x H' x' _ ex => q x H' x' ex
theorem evm_k {C : Addr} {nm : Nat} {ns : List Str} {ds : List PyData} {t : TA} (ha : EvA K a G t σ (· = ds)) (hn : ds.length = nm) (hC : clsL cs n = C) (hk : n < 31) (ec : ExcC K C) (xf : XfC K C) (nf : ∀ f ∈ ns, PySem.W.findIn K (.ref C) f = some none) (nd : ns.Nodup) (hl : ds.length = ns.length) : EvM K cs a G (tMkX C 0 nm (spIV C ns) (fun vs zs => vs ++ (zs.drop 1 ++ zs.take 1)) tNil t) σ n (ns.zip (ds.drop 1 ++ ds.take 1)) := fun S H1 fr s Q q =>
  rd_mkK ha hn hC hk ec xf nf nd hl fr s fun x H' x' _ ex => q x H' x' ex
theorem q_forT2 {v0 v1 v2 : V} {y3 : Option V} {tb : TS} (h1 : EvM K cs a G t1 [some v0, some v1, some v2, y3] n fs) (h2 : EvM K cs a G t2 [some v0, some v1, some v2, y3] n fs) (fr : Fr a S H) (s : Same G (off S H))
    (step : ∀ (y : Addr) (H' : Hp) (Dn' : Ends), ExF K cs (off S H') y n fs → Ext a H H' → Fr a S H' → (∀ H'', Ext a H' H'' → Fr a S H'' → Dn'.nx [some v0, some v1, some v2, some (.ref y)] H'') → Dn'.rt = Dn.rt → tb Dn' [some v0, some v1, some v2, some (.ref y)] H')
    (done : ∀ y H', Ext a H H' → Fr a S H' → Dn.nx [some v0, some v1, some v2, y] H') : tFor (iSeq K (tTup (tCons t1 (tCons t2 tNil)))) (gName 3) tb Dn [some v0, some v1, some v2, y3] H := by
  refine h1 S H fr s _ fun x1 H1 e1 ex1 => h2 S H1 (fr.ext e1) (fr.same e1 s) _ fun x2 H2 e2 ex2 => ⟨by show 2 ≤ sizeLine; decide, fun p np => ?_⟩
  have f2 := (fr.ext e1).ext e2
  have pa := f2.ne np
  have e3 : Ext a H2 (upd H2 p (.tup [.ref x1, .ref x2])) := Ext.new np
  have f3 := f2.ext e3
  have hp : upd H2 p (.tup [.ref x1, .ref x2]) p = some (.tup [.ref x1, .ref x2]) := upd_same
  have e03 := (e1.trans e2).trans e3
  have ex1 := ex1.mono ((e2.trans e3).off (fr.ext e1).mem)
  have ex2 := ex2.mono (e3.off f2.mem)
  generalize upd H2 p (.tup [.ref x1, .ref x2]) = H3 at e3 f3 hp e03 ex1 ex2 ⊢
  refine ⟨p, rfl, .inr ⟨⟨_, .inl (.inl hp)⟩, for_it (walk_tup (xs := [.ref x1, .ref x2]) (K := K) (a := p)) (fun i σ' H' => ∃ y, σ' = [some v0, some v1, some v2, y] ∧ Ext a H3 H' ∧ Fr a S H') ⟨_, rfl, Ext.refl, f3⟩ (fun i σ' H' _ ⟨_, _, x', _⟩ => .inl (.inl (x'.keep _ _ pa hp))) (fun i u σ' H' H'' hi pv y => ?_) fun σ' H' ⟨y, e, x', f'⟩ => by
    subst e
    exact done y H' (e03.trans x') f'⟩⟩
  obtain ⟨e, hu⟩ := y
  subst e
  obtain ⟨y3, rfl, x', f'⟩ := pv
  have : ∃ y, u = .ref y ∧ ExF K cs (off S H3) y n fs := by
    match i, hu with
    | 0, hu =>
      injection hu with hu
      exact ⟨x1, hu.symm, ex1⟩
    | 1, hu =>
      injection hu with hu
      exact ⟨x2, hu.symm, ex2⟩
    | i + 2, hu => exact nomatch hu
  obtain ⟨y, rfl, ex⟩ := this
  exact step y _ _ (ex.mono (x'.off f3.mem)) (e03.trans x') f' (fun H'' x'' f'' => ⟨_, rfl, x'.trans x'', f''⟩) rfl
/-! ### without fields -/
def EvI (K : PySem.W.Frag) (cs : List Addr) (a : Addr) (G : Hp) (te : TE) (σ : L2.St) (n : Nat) : Prop := ∀ S H1, Fr a S H1 → Same G (off S H1) → ∀ Q : VK, (∀ x H2, Ext a H1 H2 → ExI K cs (off S H2) x n → Q (.ref x) H2) → te σ H1 Q
theorem evi_0 {C : Addr} (hC : clsL cs n = C) (hk : n < 31) (ec : ExcC K C) : EvI K cs a G (fun σ H Q => ∀ a, H a = none → Q (.ref a) (upd H a (exo a C none))) σ n := fun S H1 fr s Q q x nx => by
  subst hC
  exact q x _ (Ext.new nx) ⟨hk, ec, none, off_mk (fr.out nx) upd_same, fun dx e => nomatch e⟩
theorem evi_1 {C : Addr} {A : PyData → Prop} (h : Ev K a G ta σ A) (hC : clsL cs n = C) (hk : n < 31) (ec : ExcC K C) : EvI K cs a G (fun σ H Q => ta σ H fun _ H1 => ∀ a, H1 a = none → Q (.ref a) (upd H1 a (exo a C none))) σ n := fun S H1 fr s Q q =>
  h S H1 fr s _ fun v d H2 x2 m c x nx => by
    subst hC
    exact q x _ (x2.trans (Ext.new nx)) ⟨hk, ec, none, off_mk ((fr.ext x2).out nx) upd_same, fun dx e => nomatch e⟩
theorem ev_isE {tn : TE} (h : EvI K cs a G te σ n) (hn : n < 27) (ht : ∀ G' , Same G G' → Ev K a G' tn σ (· = .int (n : Nat))) : Ev K a G (tCall (spIs K cs) [] E (tCons te (tCons tn tNil))) σ (· = .bool true) := fun S H1 f s Q q =>
  h S H1 f s _ fun x H2 x2 ex => ht _ (f.same x2 s) S H2 (f.ext x2) (Same.refl _) _ fun v d H3 x3 m e => by
    subst e
    cases m
    exact ⟨a, S, x, n, rfl, hn, (f.ext x2).ext x3, ex.mono (x3.off (f.ext x2).mem), fun H' x' => q _ _ H' ((x2.trans x3).trans x') (.bl _) rfl⟩
def EvIs (K : PySem.W.Frag) (cs : List Addr) (a : Addr) (G : Hp) (tr : TA) (σ : L2.St) (ns : List Nat) : Prop := ∀ S H1, Fr a S H1 → Same G (off S H1) → ∀ Q : List V → Hp → Prop, (∀ vs H2, Ext a H1 H2 → Paired (fun n v => ∃ x, v = V.ref x ∧ ExI K cs (off S H2) x n) ns vs → Q vs H2) → tr σ H1 Q
theorem exi_mono {G G' : Hp} (s : Same G G') : ∀ {ns : List Nat} {vs : List V}, Paired (fun n v => ∃ x, v = V.ref x ∧ ExI K cs G x n) ns vs → Paired (fun n v => ∃ x, v = V.ref x ∧ ExI K cs G' x n) ns vs
  | _, _, .nil => .nil
  | _, _, .cons ⟨x, e, h⟩ t => .cons ⟨x, e, h.mono s⟩ (exi_mono s t)
theorem evis_nil : EvIs K cs a G tNil σ [] := fun S H1 fr s Q q => q [] H1 Ext.refl .nil
theorem evis_cons {ns : List Nat} (h : EvI K cs a G te σ n) (t : EvIs K cs a G tr σ ns) : EvIs K cs a G (tCons te tr) σ (n :: ns) := fun S H1 fr s Q q =>
  h S H1 fr s _ fun x H2 x2 p => t S H2 (fr.ext x2) (fr.same x2 s) _ fun vs H3 x3 ax => q (.ref x :: vs) H3 (x2.trans x3) (.cons ⟨x, rfl, p.mono (x3.off (fr.ext x2).mem)⟩ ax)
theorem q_lstI {ns : List Nat} (h : EvIs K cs a G tr σ ns) (hn : ns.length ≤ 100) (fr : Fr a S H) (s : Same G (off S H))
    (q : ∀ L vs H', Ext a H H' → Fr a S H' → L ≠ a → H' L = some (.lst vs) → Paired (fun n v => ∃ x, v = V.ref x ∧ ExI K cs (off S H') x n) ns vs → Dn.nx (σ.set j (some (.ref L))) H') : tAsg (tLst tr) (gName j) Dn σ H :=
  h S H fr s _ fun vs H2 x2 ax => ⟨by rw [← Paired.length ax]; exact Nat.le_of_lt (small1000 (by omega)), fun p np => by
    have f2 := fr.ext x2
    have x3 := x2.trans (Ext.new (o := .lst vs) np)
    exact q p vs _ x3 (fr.ext x3) (f2.ne np) upd_same (exi_mono ((Ext.new np).off f2.mem) ax)⟩
theorem q_forEnumX {xs : List V} {g : TG} {tb : TS} (hi : σ[i]? = some (some (.ref L))) (hL : H L = some (.lst xs)) (Pv : Nat → L2.St → Hp → Prop) (h0 : Pv 0 σ H) (hG : ∀ i σ' H', Pv i σ' H' → H' L = some (.lst xs))
    (hs : ∀ i x T σ' H', xs[i]? = some x → Pv i σ' H' → H' T = none → g (.ref T) σ' (upd H' T (.tup [.int (i : Nat), x])) fun σ2 H3 => tb { Dn with nx := Pv (i + 1), ct := Pv (i + 1), bk := Dn.nx } σ2 H3) (hd : ∀ σ' H', Pv xs.length σ' H' → Dn.nx σ' H') :
    tFor (iEnum K (tCons (tVar i) tNil)) g tb Dn σ H := by
  refine ⟨.ref L, hi, L, xs, rfl, SqL.of hL, for_it (walk_enum (xs := xs) (K := K) (a := L)) Pv h0 (fun i σ' H' _ p => SqL.of (hG i σ' H' p)) (fun i x σ' H' H'' hi p y => ?_) hd⟩
  obtain ⟨T, x', y', rfl, nT, rfl, e1, e2⟩ := y
  injection e1 with e1
  subst e1
  exact hs i y' T σ' H' e2 p nT
end
/-! ### promises -/
def spPl18 : Sp := fun vs H Q _ => ∃ (a : Addr) (S : List Addr), vs = [] ∧ Fr a S H ∧ ∀ H', Ext a H H' → Q (.bl true) H'
end LK
set_option Elab.async false
set_option linter.all false
set_option maxRecDepth 100000
set_option maxHeartbeats 1000000
/-! LK260: the loop of a law behind which some pot is left; exceptions without fields in a list -/
namespace LK
open PySem PySem.Spec L2
open PyProof.Rows hiding St
theorem paired_getR {α β : Type} {F : α → β → Prop} : ∀ {xs : List α} {ys : List β} {i : Nat} {y : β}, Paired F xs ys → ys[i]? = some y → ∃ x, xs[i]? = some x ∧ F x y
  | _, _, _, _, .nil, e => by simp at e
  | _, _, 0, _, .cons r _, e => by simp at e; subst e; exact ⟨_, rfl, r⟩
  | _, _, i + 1, y, .cons _ t, e => by
    obtain ⟨x, h1, h2⟩ := paired_getR (i := i) (y := y) t (by simpa using e)
    exact ⟨x, by simpa using h1, h2⟩
theorem four18 {i n : Nat} (h : ([27, 28, 29, 30] : List Nat)[i]? = some n) : i < 4 ∧ n = 27 + i ∧ grpN n = i ∧ flD n = .list [] := by
  match i, h with
  | 0, h => injection h with h; subst h; exact ⟨by decide, rfl, by decide, rfl⟩
  | 1, h => injection h with h; subst h; exact ⟨by decide, rfl, by decide, rfl⟩
  | 2, h => injection h with h; subst h; exact ⟨by decide, rfl, by decide, rfl⟩
  | 3, h => injection h with h; subst h; exact ⟨by decide, rfl, by decide, rfl⟩
  | i + 4, h => simp at h
theorem rd_lawForP {m : Nat} {K : PySem.W.Frag} {E2 : XK} {s : Addr} {ns : List Int} {H : Hp} {tr : TA} {tb : TS} {Dn : Ends} {σ : L2.St} {hi : σ.length = m} (hm : 3 ≤ m) (hs : SqL K H s (ns.map V.int)) (h0 : σ[0]? = some (some (.ref s)))
    (hz : ∀ R : List V → Hp → Prop, (∀ z : Int, 1 ≤ z → z ≤ 63 → R [.int z] H) → tr σ H R)
    (body : ∀ (Dn' : Ends) (p : Addr) (H0 H' : Hp) (σ' : L2.St), Same H H' → H p = none → PotAt H' p → σ'.length = m → σ'[0]? = some (some (.ref s)) → σ'[2]? = some (some (.ref p)) → (∀ σ'' H'', σ''.length = m → σ''[0]? = some (some (.ref s)) → Ext p H' H'' → Dn'.nx σ'' H'') → tb Dn' σ' H')
    (fin : ∀ σ' H' p, PotAt H' p → Dn.nx σ' H') : tFor (iRng1 tr) (gName 1) (tSeq (tAsg (tCall (spPot K) [] E2 (tCons (tVar 0) (tCons (tVar 1) tNil))) (gName 2)) tb) Dn σ H := by
  refine hz _ fun z z1 z63 => ⟨z, rfl, by omega, by omega, ?_⟩
  refine for_range (lo := 0) (n := z.toNat) (fun i σ' H' => σ'.length = m ∧ σ'[0]? = some (some (.ref s)) ∧ Same H H' ∧ (0 < i → ∃ p, PotAt H' p)) ⟨hi, h0, Same.refl H, fun h => nomatch h⟩ ?_ ?_
  · rintro i σ' H1 hi ⟨hl, e0, s1, _⟩
    have e1 : (σ'.set 1 (some (.int (0 + (i : Nat)))))[1]? = some (some (.int (0 + (i : Nat)))) := by rw [List.getElem?_set_self (by omega)]
    have e0' : (σ'.set 1 (some (.int (0 + (i : Nat)))))[0]? = some (some (.ref s)) := by rw [List.getElem?_set_ne (by decide)]; exact e0
    refine ⟨.ref s, e0', _, e1, s, ns, i, by rw [List.append_nil, Int.zero_add], s1.seq hs, by omega, fun p H2 s2 hp pot => ?_⟩
    have s02 := s1.trans s2
    have hp0 : H p = none := s1.free hp
    refine body _ p H1 H2 _ s02 hp0 pot (by rw [List.length_set, List.length_set]; exact hl) (by rw [List.getElem?_set_ne (by decide)]; exact e0') (by rw [List.getElem?_set_self (by rw [List.length_set]; omega)]) fun σ'' H'' l'' e'' x'' => ⟨l'', e'', Ext.same_of hp0 s02 x'', fun _ => ⟨p, x''.pot pot⟩⟩
  · rintro σ' H1 ⟨_, _, _, h⟩
    obtain ⟨p, h⟩ := h (by omega)
    exact fin σ' H1 p h
end LK
--EXV InvalidName InvalidNumber InvalidLevel InvalidClock InvalidCount InvalidFields InvalidEquation InvalidEquations InvalidSetting InvalidSettings InvalidPairs InvalidWishes InvalidNames InvalidText InvalidCommand UnknownField UnknownReplica UnknownMessage NotFree NotDetermined OtherSheet Refused Impossible RunFailed NothingToTakeBack TooMany NoQuotient LastheldError MissingError StateError LimitError
set_option Elab.async false
set_option linter.all false
set_option maxRecDepth 100000
set_option maxHeartbeats 1000000
set_option exponentiation.threshold 20000
namespace K18
open PySem PySem.Spec L2 LK
open PyProof.Rows hiding St
def topS (i : Nat) : Stmt := PySem.Challenge.pw_lastheld_k18_errors_made.main.body.getD i (.Pass ⟨0, 0, 0, 0⟩)
abbrev s_InvalidName___init__ : Stmt := inClass (topS 5) 0
theorem sc_InvalidName___init__ : FnScope ["self", "value"] ["self", "value"] (defScope s_InvalidName___init__) := ⟨rfl, rfl, rfl, by decide +kernel, rfl, by decide +kernel, by decide +kernel⟩
abbrev s_InvalidNumber___init__ : Stmt := inClass (topS 6) 0
theorem sc_InvalidNumber___init__ : FnScope ["self", "value"] ["self", "value"] (defScope s_InvalidNumber___init__) := ⟨rfl, rfl, rfl, by decide +kernel, rfl, by decide +kernel, by decide +kernel⟩
abbrev s_InvalidLevel___init__ : Stmt := inClass (topS 7) 0
theorem sc_InvalidLevel___init__ : FnScope ["self", "value"] ["self", "value"] (defScope s_InvalidLevel___init__) := ⟨rfl, rfl, rfl, by decide +kernel, rfl, by decide +kernel, by decide +kernel⟩
abbrev s_InvalidClock___init__ : Stmt := inClass (topS 8) 0
theorem sc_InvalidClock___init__ : FnScope ["self", "value"] ["self", "value"] (defScope s_InvalidClock___init__) := ⟨rfl, rfl, rfl, by decide +kernel, rfl, by decide +kernel, by decide +kernel⟩
abbrev s_InvalidCount___init__ : Stmt := inClass (topS 9) 0
theorem sc_InvalidCount___init__ : FnScope ["self", "value"] ["self", "value"] (defScope s_InvalidCount___init__) := ⟨rfl, rfl, rfl, by decide +kernel, rfl, by decide +kernel, by decide +kernel⟩
abbrev s_InvalidFields___init__ : Stmt := inClass (topS 10) 0
theorem sc_InvalidFields___init__ : FnScope ["self", "index"] ["self", "index"] (defScope s_InvalidFields___init__) := ⟨rfl, rfl, rfl, by decide +kernel, rfl, by decide +kernel, by decide +kernel⟩
abbrev s_InvalidEquation___init__ : Stmt := inClass (topS 11) 0
theorem sc_InvalidEquation___init__ : FnScope ["self", "value"] ["self", "value"] (defScope s_InvalidEquation___init__) := ⟨rfl, rfl, rfl, by decide +kernel, rfl, by decide +kernel, by decide +kernel⟩
abbrev s_InvalidEquations___init__ : Stmt := inClass (topS 12) 0
theorem sc_InvalidEquations___init__ : FnScope ["self", "index"] ["self", "index"] (defScope s_InvalidEquations___init__) := ⟨rfl, rfl, rfl, by decide +kernel, rfl, by decide +kernel, by decide +kernel⟩
abbrev s_InvalidSetting___init__ : Stmt := inClass (topS 13) 0
theorem sc_InvalidSetting___init__ : FnScope ["self", "value"] ["self", "value"] (defScope s_InvalidSetting___init__) := ⟨rfl, rfl, rfl, by decide +kernel, rfl, by decide +kernel, by decide +kernel⟩
abbrev s_InvalidSettings___init__ : Stmt := inClass (topS 14) 0
theorem sc_InvalidSettings___init__ : FnScope ["self", "index"] ["self", "index"] (defScope s_InvalidSettings___init__) := ⟨rfl, rfl, rfl, by decide +kernel, rfl, by decide +kernel, by decide +kernel⟩
abbrev s_InvalidPairs___init__ : Stmt := inClass (topS 15) 0
theorem sc_InvalidPairs___init__ : FnScope ["self", "index"] ["self", "index"] (defScope s_InvalidPairs___init__) := ⟨rfl, rfl, rfl, by decide +kernel, rfl, by decide +kernel, by decide +kernel⟩
abbrev s_InvalidWishes___init__ : Stmt := inClass (topS 16) 0
theorem sc_InvalidWishes___init__ : FnScope ["self", "index"] ["self", "index"] (defScope s_InvalidWishes___init__) := ⟨rfl, rfl, rfl, by decide +kernel, rfl, by decide +kernel, by decide +kernel⟩
abbrev s_InvalidNames___init__ : Stmt := inClass (topS 17) 0
theorem sc_InvalidNames___init__ : FnScope ["self", "index"] ["self", "index"] (defScope s_InvalidNames___init__) := ⟨rfl, rfl, rfl, by decide +kernel, rfl, by decide +kernel, by decide +kernel⟩
abbrev s_InvalidText___init__ : Stmt := inClass (topS 18) 0
theorem sc_InvalidText___init__ : FnScope ["self", "line"] ["self", "line"] (defScope s_InvalidText___init__) := ⟨rfl, rfl, rfl, by decide +kernel, rfl, by decide +kernel, by decide +kernel⟩
abbrev s_InvalidCommand___init__ : Stmt := inClass (topS 19) 0
theorem sc_InvalidCommand___init__ : FnScope ["self", "command"] ["self", "command"] (defScope s_InvalidCommand___init__) := ⟨rfl, rfl, rfl, by decide +kernel, rfl, by decide +kernel, by decide +kernel⟩
abbrev s_UnknownField___init__ : Stmt := inClass (topS 20) 0
theorem sc_UnknownField___init__ : FnScope ["self", "value"] ["self", "value"] (defScope s_UnknownField___init__) := ⟨rfl, rfl, rfl, by decide +kernel, rfl, by decide +kernel, by decide +kernel⟩
abbrev s_UnknownReplica___init__ : Stmt := inClass (topS 21) 0
theorem sc_UnknownReplica___init__ : FnScope ["self", "value"] ["self", "value"] (defScope s_UnknownReplica___init__) := ⟨rfl, rfl, rfl, by decide +kernel, rfl, by decide +kernel, by decide +kernel⟩
abbrev s_UnknownMessage___init__ : Stmt := inClass (topS 22) 0
theorem sc_UnknownMessage___init__ : FnScope ["self", "value"] ["self", "value"] (defScope s_UnknownMessage___init__) := ⟨rfl, rfl, rfl, by decide +kernel, rfl, by decide +kernel, by decide +kernel⟩
abbrev s_NotFree___init__ : Stmt := inClass (topS 23) 0
theorem sc_NotFree___init__ : FnScope ["self", "given"] ["self", "given"] (defScope s_NotFree___init__) := ⟨rfl, rfl, rfl, by decide +kernel, rfl, by decide +kernel, by decide +kernel⟩
abbrev s_NotDetermined___init__ : Stmt := inClass (topS 24) 0
theorem sc_NotDetermined___init__ : FnScope ["self", "field"] ["self", "field"] (defScope s_NotDetermined___init__) := ⟨rfl, rfl, rfl, by decide +kernel, rfl, by decide +kernel, by decide +kernel⟩
abbrev s_OtherSheet___init__ : Stmt := inClass (topS 25) 0
theorem sc_OtherSheet___init__ : FnScope ["self", "index"] ["self", "index"] (defScope s_OtherSheet___init__) := ⟨rfl, rfl, rfl, by decide +kernel, rfl, by decide +kernel, by decide +kernel⟩
abbrev s_Refused___init__ : Stmt := inClass (topS 26) 0
theorem sc_Refused___init__ : FnScope ["self", "field", "level", "cause"] ["self", "field", "level", "cause"] (defScope s_Refused___init__) := ⟨rfl, rfl, rfl, by decide +kernel, rfl, by decide +kernel, by decide +kernel⟩
abbrev s_Impossible___init__ : Stmt := inClass (topS 27) 0
theorem sc_Impossible___init__ : FnScope ["self", "conflict"] ["self", "conflict"] (defScope s_Impossible___init__) := ⟨rfl, rfl, rfl, by decide +kernel, rfl, by decide +kernel, by decide +kernel⟩
abbrev s_RunFailed___init__ : Stmt := inClass (topS 28) 0
theorem sc_RunFailed___init__ : FnScope ["self", "position", "results"] ["self", "position", "results"] (defScope s_RunFailed___init__) := ⟨rfl, rfl, rfl, by decide +kernel, rfl, by decide +kernel, by decide +kernel⟩
abbrev s_TooMany___init__ : Stmt := inClass (topS 30) 0
theorem sc_TooMany___init__ : FnScope ["self", "kind", "limit"] ["self", "kind", "limit"] (defScope s_TooMany___init__) := ⟨rfl, rfl, rfl, by decide +kernel, rfl, by decide +kernel, by decide +kernel⟩
abbrev s_NoQuotient___init__ : Stmt := inClass (topS 31) 0
theorem sc_NoQuotient___init__ : FnScope ["self", "value"] ["self", "value"] (defScope s_NoQuotient___init__) := ⟨rfl, rfl, rfl, by decide +kernel, rfl, by decide +kernel, by decide +kernel⟩
abbrev s_l_pot : Stmt := topS 33
theorem sc_l_pot : FnScope ["_law_script", "_law_k", "_law_digits"] ["_law_script", "_law_k"] (defScope s_l_pot) := ⟨rfl, rfl, rfl, by decide +kernel, rfl, by decide +kernel, by decide +kernel⟩
abbrev s_l_draw : Stmt := topS 34
theorem sc_l_draw : FnScope ["_law_pot_here", "_law_many", "_law_digit"] ["_law_pot_here", "_law_many"] (defScope s_l_draw) := ⟨rfl, rfl, rfl, by decide +kernel, rfl, by decide +kernel, by decide +kernel⟩
abbrev s_l_odd : Stmt := topS 35
theorem sc_l_odd : FnScope ["_law_pot_here", "_law_some"] ["_law_pot_here"] (defScope s_l_odd) := ⟨rfl, rfl, rfl, by decide +kernel, rfl, by decide +kernel, by decide +kernel⟩
abbrev s_l_flags : Stmt := topS 36
theorem sc_l_flags : FnScope ["_law_e", "_law_found", "_law_place", "_law_flag"] ["_law_e"] (defScope s_l_flags) := ⟨rfl, rfl, rfl, by decide +kernel, rfl, by decide +kernel, by decide +kernel⟩
abbrev s_l_bases : Stmt := topS 37
theorem sc_l_bases : FnScope ["_law_e", "_law_found"] ["_law_e"] (defScope s_l_bases) := ⟨rfl, rfl, rfl, by decide +kernel, rfl, by decide +kernel, by decide +kernel⟩
abbrev s_l_is : Stmt := topS 38
theorem sc_l_is : FnScope ["_law_e", "_law_place", "_law_group", "_law_due"] ["_law_e", "_law_place"] (defScope s_l_is) := ⟨rfl, rfl, rfl, by decide +kernel, rfl, by decide +kernel, by decide +kernel⟩
abbrev s_l_values_right : Stmt := topS 39
theorem sc_l_values_right : FnScope ["_law_thing", "_law_some", "_law_more", "_law_places", "_law_e", "_law_place"] ["_law_thing"] (defScope s_l_values_right) := ⟨rfl, rfl, rfl, by decide +kernel, rfl, by decide +kernel, by decide +kernel⟩
abbrev s_l_places_right : Stmt := topS 40
theorem sc_l_places_right : FnScope ["_law_thing", "_law_some", "_law_more", "_law_places", "_law_e", "_law_place"] ["_law_thing"] (defScope s_l_places_right) := ⟨rfl, rfl, rfl, by decide +kernel, rfl, by decide +kernel, by decide +kernel⟩
abbrev s_l_others_right : Stmt := topS 41
theorem sc_l_others_right : FnScope ["_law_thing", "_law_mate", "_law_third", "_law_e"] ["_law_thing", "_law_mate", "_law_third"] (defScope s_l_others_right) := ⟨rfl, rfl, rfl, by decide +kernel, rfl, by decide +kernel, by decide +kernel⟩
abbrev s_l_plain_right : Stmt := topS 42
theorem sc_l_plain_right : FnScope ["_law_some", "_law_group", "_law_e", "_law_due"] [] (defScope s_l_plain_right) := ⟨rfl, rfl, rfl, by decide +kernel, rfl, by decide +kernel, by decide +kernel⟩
abbrev s_law : Stmt := topS 43
theorem sc_law : FnScope ["_law_script", "_law_k", "_law_pot_here", "_law_thing", "_law_mate", "_law_third"] ["_law_script"] (defScope s_law) := ⟨rfl, rfl, rfl, by decide +kernel, rfl, by decide +kernel, by decide +kernel⟩
structure Cls where
  LastheldError : Addr
  MissingError : Addr
  StateError : Addr
  LimitError : Addr
  InvalidName : Addr
  InvalidNumber : Addr
  InvalidLevel : Addr
  InvalidClock : Addr
  InvalidCount : Addr
  InvalidFields : Addr
  InvalidEquation : Addr
  InvalidEquations : Addr
  InvalidSetting : Addr
  InvalidSettings : Addr
  InvalidPairs : Addr
  InvalidWishes : Addr
  InvalidNames : Addr
  InvalidText : Addr
  InvalidCommand : Addr
  UnknownField : Addr
  UnknownReplica : Addr
  UnknownMessage : Addr
  NotFree : Addr
  NotDetermined : Addr
  OtherSheet : Addr
  Refused : Addr
  Impossible : Addr
  RunFailed : Addr
  NothingToTakeBack : Addr
  TooMany : Addr
  NoQuotient : Addr
structure Txt (K : PySem.W.Frag) (mg : Str → Option Value) (c : Cls) : Prop where
  triv : True
  b_ArithmeticError : mg "ArithmeticError" = none
  b_IndexError : mg "IndexError" = none
  b_KeyError : mg "KeyError" = none
  b_LookupError : mg "LookupError" = none
  b_RuntimeError : mg "RuntimeError" = none
  b_ValueError : mg "ValueError" = none
  b_abs : mg "abs" = none
  b_divmod : mg "divmod" = none
  b_enumerate : mg "enumerate" = none
  b_isinstance : mg "isinstance" = none
  b_len : mg "len" = none
  b_list : mg "list" = none
  b_max : mg "max" = none
  b_min : mg "min" = none
  b_range : mg "range" = none
  b_repr : mg "repr" = none
  b_zip : mg "zip" = none
  g_LastheldError : mg "LastheldError" = some (.ref c.LastheldError)
  g_MissingError : mg "MissingError" = some (.ref c.MissingError)
  g_StateError : mg "StateError" = some (.ref c.StateError)
  g_LimitError : mg "LimitError" = some (.ref c.LimitError)
  g_InvalidName : mg "InvalidName" = some (.ref c.InvalidName)
  g_InvalidNumber : mg "InvalidNumber" = some (.ref c.InvalidNumber)
  g_InvalidLevel : mg "InvalidLevel" = some (.ref c.InvalidLevel)
  g_InvalidClock : mg "InvalidClock" = some (.ref c.InvalidClock)
  g_InvalidCount : mg "InvalidCount" = some (.ref c.InvalidCount)
  g_InvalidFields : mg "InvalidFields" = some (.ref c.InvalidFields)
  g_InvalidEquation : mg "InvalidEquation" = some (.ref c.InvalidEquation)
  g_InvalidEquations : mg "InvalidEquations" = some (.ref c.InvalidEquations)
  g_InvalidSetting : mg "InvalidSetting" = some (.ref c.InvalidSetting)
  g_InvalidSettings : mg "InvalidSettings" = some (.ref c.InvalidSettings)
  g_InvalidPairs : mg "InvalidPairs" = some (.ref c.InvalidPairs)
  g_InvalidWishes : mg "InvalidWishes" = some (.ref c.InvalidWishes)
  g_InvalidNames : mg "InvalidNames" = some (.ref c.InvalidNames)
  g_InvalidText : mg "InvalidText" = some (.ref c.InvalidText)
  g_InvalidCommand : mg "InvalidCommand" = some (.ref c.InvalidCommand)
  g_UnknownField : mg "UnknownField" = some (.ref c.UnknownField)
  g_UnknownReplica : mg "UnknownReplica" = some (.ref c.UnknownReplica)
  g_UnknownMessage : mg "UnknownMessage" = some (.ref c.UnknownMessage)
  g_NotFree : mg "NotFree" = some (.ref c.NotFree)
  g_NotDetermined : mg "NotDetermined" = some (.ref c.NotDetermined)
  g_OtherSheet : mg "OtherSheet" = some (.ref c.OtherSheet)
  g_Refused : mg "Refused" = some (.ref c.Refused)
  g_Impossible : mg "Impossible" = some (.ref c.Impossible)
  g_RunFailed : mg "RunFailed" = some (.ref c.RunFailed)
  g_NothingToTakeBack : mg "NothingToTakeBack" = some (.ref c.NothingToTakeBack)
  g_TooMany : mg "TooMany" = some (.ref c.TooMany)
  g_NoQuotient : mg "NoQuotient" = some (.ref c.NoQuotient)
  xb_LastheldError : XBB "ValueError.__init__" K mg "LastheldError" c.LastheldError
  xb_LimitError : XBB "ArithmeticError.__init__" K mg "LimitError" c.LimitError
  xb_MissingError : XBB "LookupError.__init__" K mg "MissingError" c.MissingError
  xb_StateError : XBB "RuntimeError.__init__" K mg "StateError" c.StateError
  xc_InvalidName : XCB "ValueError" "ValueError.__new__" "ValueError.__init__" [.type "ValueError", .type "Exception", .type "BaseException", .type "object"] K mg "InvalidName" c.InvalidName
  nf_InvalidName_value : PySem.W.findIn K (.ref c.InvalidName) "value" = some none
  in_InvalidName : ∃ (fI : Addr) (fd : FuncData), PySem.W.findIn K (.ref c.InvalidName) "__init__" = some (some (.ref fI)) ∧ PySem.W.typeIn K (.ref fI) = some (.type "function") ∧ Fun K "__init__" "InvalidName.__init__" s_InvalidName___init__ fI fd
  xc_InvalidNumber : XCB "ValueError" "ValueError.__new__" "ValueError.__init__" [.type "ValueError", .type "Exception", .type "BaseException", .type "object"] K mg "InvalidNumber" c.InvalidNumber
  nf_InvalidNumber_value : PySem.W.findIn K (.ref c.InvalidNumber) "value" = some none
  in_InvalidNumber : ∃ (fI : Addr) (fd : FuncData), PySem.W.findIn K (.ref c.InvalidNumber) "__init__" = some (some (.ref fI)) ∧ PySem.W.typeIn K (.ref fI) = some (.type "function") ∧ Fun K "__init__" "InvalidNumber.__init__" s_InvalidNumber___init__ fI fd
  xc_InvalidLevel : XCB "ValueError" "ValueError.__new__" "ValueError.__init__" [.type "ValueError", .type "Exception", .type "BaseException", .type "object"] K mg "InvalidLevel" c.InvalidLevel
  nf_InvalidLevel_value : PySem.W.findIn K (.ref c.InvalidLevel) "value" = some none
  in_InvalidLevel : ∃ (fI : Addr) (fd : FuncData), PySem.W.findIn K (.ref c.InvalidLevel) "__init__" = some (some (.ref fI)) ∧ PySem.W.typeIn K (.ref fI) = some (.type "function") ∧ Fun K "__init__" "InvalidLevel.__init__" s_InvalidLevel___init__ fI fd
  xc_InvalidClock : XCB "ValueError" "ValueError.__new__" "ValueError.__init__" [.type "ValueError", .type "Exception", .type "BaseException", .type "object"] K mg "InvalidClock" c.InvalidClock
  nf_InvalidClock_value : PySem.W.findIn K (.ref c.InvalidClock) "value" = some none
  in_InvalidClock : ∃ (fI : Addr) (fd : FuncData), PySem.W.findIn K (.ref c.InvalidClock) "__init__" = some (some (.ref fI)) ∧ PySem.W.typeIn K (.ref fI) = some (.type "function") ∧ Fun K "__init__" "InvalidClock.__init__" s_InvalidClock___init__ fI fd
  xc_InvalidCount : XCB "ValueError" "ValueError.__new__" "ValueError.__init__" [.type "ValueError", .type "Exception", .type "BaseException", .type "object"] K mg "InvalidCount" c.InvalidCount
  nf_InvalidCount_value : PySem.W.findIn K (.ref c.InvalidCount) "value" = some none
  in_InvalidCount : ∃ (fI : Addr) (fd : FuncData), PySem.W.findIn K (.ref c.InvalidCount) "__init__" = some (some (.ref fI)) ∧ PySem.W.typeIn K (.ref fI) = some (.type "function") ∧ Fun K "__init__" "InvalidCount.__init__" s_InvalidCount___init__ fI fd
  xc_InvalidFields : XCB "ValueError" "ValueError.__new__" "ValueError.__init__" [.type "ValueError", .type "Exception", .type "BaseException", .type "object"] K mg "InvalidFields" c.InvalidFields
  nf_InvalidFields_index : PySem.W.findIn K (.ref c.InvalidFields) "index" = some none
  in_InvalidFields : ∃ (fI : Addr) (fd : FuncData), PySem.W.findIn K (.ref c.InvalidFields) "__init__" = some (some (.ref fI)) ∧ PySem.W.typeIn K (.ref fI) = some (.type "function") ∧ Fun K "__init__" "InvalidFields.__init__" s_InvalidFields___init__ fI fd
  xc_InvalidEquation : XCB "ValueError" "ValueError.__new__" "ValueError.__init__" [.type "ValueError", .type "Exception", .type "BaseException", .type "object"] K mg "InvalidEquation" c.InvalidEquation
  nf_InvalidEquation_value : PySem.W.findIn K (.ref c.InvalidEquation) "value" = some none
  in_InvalidEquation : ∃ (fI : Addr) (fd : FuncData), PySem.W.findIn K (.ref c.InvalidEquation) "__init__" = some (some (.ref fI)) ∧ PySem.W.typeIn K (.ref fI) = some (.type "function") ∧ Fun K "__init__" "InvalidEquation.__init__" s_InvalidEquation___init__ fI fd
  xc_InvalidEquations : XCB "ValueError" "ValueError.__new__" "ValueError.__init__" [.type "ValueError", .type "Exception", .type "BaseException", .type "object"] K mg "InvalidEquations" c.InvalidEquations
  nf_InvalidEquations_index : PySem.W.findIn K (.ref c.InvalidEquations) "index" = some none
  in_InvalidEquations : ∃ (fI : Addr) (fd : FuncData), PySem.W.findIn K (.ref c.InvalidEquations) "__init__" = some (some (.ref fI)) ∧ PySem.W.typeIn K (.ref fI) = some (.type "function") ∧ Fun K "__init__" "InvalidEquations.__init__" s_InvalidEquations___init__ fI fd
  xc_InvalidSetting : XCB "ValueError" "ValueError.__new__" "ValueError.__init__" [.type "ValueError", .type "Exception", .type "BaseException", .type "object"] K mg "InvalidSetting" c.InvalidSetting
  nf_InvalidSetting_value : PySem.W.findIn K (.ref c.InvalidSetting) "value" = some none
  in_InvalidSetting : ∃ (fI : Addr) (fd : FuncData), PySem.W.findIn K (.ref c.InvalidSetting) "__init__" = some (some (.ref fI)) ∧ PySem.W.typeIn K (.ref fI) = some (.type "function") ∧ Fun K "__init__" "InvalidSetting.__init__" s_InvalidSetting___init__ fI fd
  xc_InvalidSettings : XCB "ValueError" "ValueError.__new__" "ValueError.__init__" [.type "ValueError", .type "Exception", .type "BaseException", .type "object"] K mg "InvalidSettings" c.InvalidSettings
  nf_InvalidSettings_index : PySem.W.findIn K (.ref c.InvalidSettings) "index" = some none
  in_InvalidSettings : ∃ (fI : Addr) (fd : FuncData), PySem.W.findIn K (.ref c.InvalidSettings) "__init__" = some (some (.ref fI)) ∧ PySem.W.typeIn K (.ref fI) = some (.type "function") ∧ Fun K "__init__" "InvalidSettings.__init__" s_InvalidSettings___init__ fI fd
  xc_InvalidPairs : XCB "ValueError" "ValueError.__new__" "ValueError.__init__" [.type "ValueError", .type "Exception", .type "BaseException", .type "object"] K mg "InvalidPairs" c.InvalidPairs
  nf_InvalidPairs_index : PySem.W.findIn K (.ref c.InvalidPairs) "index" = some none
  in_InvalidPairs : ∃ (fI : Addr) (fd : FuncData), PySem.W.findIn K (.ref c.InvalidPairs) "__init__" = some (some (.ref fI)) ∧ PySem.W.typeIn K (.ref fI) = some (.type "function") ∧ Fun K "__init__" "InvalidPairs.__init__" s_InvalidPairs___init__ fI fd
  xc_InvalidWishes : XCB "ValueError" "ValueError.__new__" "ValueError.__init__" [.type "ValueError", .type "Exception", .type "BaseException", .type "object"] K mg "InvalidWishes" c.InvalidWishes
  nf_InvalidWishes_index : PySem.W.findIn K (.ref c.InvalidWishes) "index" = some none
  in_InvalidWishes : ∃ (fI : Addr) (fd : FuncData), PySem.W.findIn K (.ref c.InvalidWishes) "__init__" = some (some (.ref fI)) ∧ PySem.W.typeIn K (.ref fI) = some (.type "function") ∧ Fun K "__init__" "InvalidWishes.__init__" s_InvalidWishes___init__ fI fd
  xc_InvalidNames : XCB "ValueError" "ValueError.__new__" "ValueError.__init__" [.type "ValueError", .type "Exception", .type "BaseException", .type "object"] K mg "InvalidNames" c.InvalidNames
  nf_InvalidNames_index : PySem.W.findIn K (.ref c.InvalidNames) "index" = some none
  in_InvalidNames : ∃ (fI : Addr) (fd : FuncData), PySem.W.findIn K (.ref c.InvalidNames) "__init__" = some (some (.ref fI)) ∧ PySem.W.typeIn K (.ref fI) = some (.type "function") ∧ Fun K "__init__" "InvalidNames.__init__" s_InvalidNames___init__ fI fd
  xc_InvalidText : XCB "ValueError" "ValueError.__new__" "ValueError.__init__" [.type "ValueError", .type "Exception", .type "BaseException", .type "object"] K mg "InvalidText" c.InvalidText
  nf_InvalidText_line : PySem.W.findIn K (.ref c.InvalidText) "line" = some none
  in_InvalidText : ∃ (fI : Addr) (fd : FuncData), PySem.W.findIn K (.ref c.InvalidText) "__init__" = some (some (.ref fI)) ∧ PySem.W.typeIn K (.ref fI) = some (.type "function") ∧ Fun K "__init__" "InvalidText.__init__" s_InvalidText___init__ fI fd
  xc_InvalidCommand : XCB "ValueError" "ValueError.__new__" "ValueError.__init__" [.type "ValueError", .type "Exception", .type "BaseException", .type "object"] K mg "InvalidCommand" c.InvalidCommand
  nf_InvalidCommand_command : PySem.W.findIn K (.ref c.InvalidCommand) "command" = some none
  in_InvalidCommand : ∃ (fI : Addr) (fd : FuncData), PySem.W.findIn K (.ref c.InvalidCommand) "__init__" = some (some (.ref fI)) ∧ PySem.W.typeIn K (.ref fI) = some (.type "function") ∧ Fun K "__init__" "InvalidCommand.__init__" s_InvalidCommand___init__ fI fd
  xc_UnknownField : XCB "LookupError" "LookupError.__new__" "LookupError.__init__" [.type "LookupError", .type "Exception", .type "BaseException", .type "object"] K mg "UnknownField" c.UnknownField
  nf_UnknownField_value : PySem.W.findIn K (.ref c.UnknownField) "value" = some none
  in_UnknownField : ∃ (fI : Addr) (fd : FuncData), PySem.W.findIn K (.ref c.UnknownField) "__init__" = some (some (.ref fI)) ∧ PySem.W.typeIn K (.ref fI) = some (.type "function") ∧ Fun K "__init__" "UnknownField.__init__" s_UnknownField___init__ fI fd
  xc_UnknownReplica : XCB "LookupError" "LookupError.__new__" "LookupError.__init__" [.type "LookupError", .type "Exception", .type "BaseException", .type "object"] K mg "UnknownReplica" c.UnknownReplica
  nf_UnknownReplica_value : PySem.W.findIn K (.ref c.UnknownReplica) "value" = some none
  in_UnknownReplica : ∃ (fI : Addr) (fd : FuncData), PySem.W.findIn K (.ref c.UnknownReplica) "__init__" = some (some (.ref fI)) ∧ PySem.W.typeIn K (.ref fI) = some (.type "function") ∧ Fun K "__init__" "UnknownReplica.__init__" s_UnknownReplica___init__ fI fd
  xc_UnknownMessage : XCB "LookupError" "LookupError.__new__" "LookupError.__init__" [.type "LookupError", .type "Exception", .type "BaseException", .type "object"] K mg "UnknownMessage" c.UnknownMessage
  nf_UnknownMessage_value : PySem.W.findIn K (.ref c.UnknownMessage) "value" = some none
  in_UnknownMessage : ∃ (fI : Addr) (fd : FuncData), PySem.W.findIn K (.ref c.UnknownMessage) "__init__" = some (some (.ref fI)) ∧ PySem.W.typeIn K (.ref fI) = some (.type "function") ∧ Fun K "__init__" "UnknownMessage.__init__" s_UnknownMessage___init__ fI fd
  xc_NotFree : XCB "RuntimeError" "RuntimeError.__new__" "RuntimeError.__init__" [.type "RuntimeError", .type "Exception", .type "BaseException", .type "object"] K mg "NotFree" c.NotFree
  nf_NotFree_given : PySem.W.findIn K (.ref c.NotFree) "given" = some none
  in_NotFree : ∃ (fI : Addr) (fd : FuncData), PySem.W.findIn K (.ref c.NotFree) "__init__" = some (some (.ref fI)) ∧ PySem.W.typeIn K (.ref fI) = some (.type "function") ∧ Fun K "__init__" "NotFree.__init__" s_NotFree___init__ fI fd
  xc_NotDetermined : XCB "RuntimeError" "RuntimeError.__new__" "RuntimeError.__init__" [.type "RuntimeError", .type "Exception", .type "BaseException", .type "object"] K mg "NotDetermined" c.NotDetermined
  nf_NotDetermined_field : PySem.W.findIn K (.ref c.NotDetermined) "field" = some none
  in_NotDetermined : ∃ (fI : Addr) (fd : FuncData), PySem.W.findIn K (.ref c.NotDetermined) "__init__" = some (some (.ref fI)) ∧ PySem.W.typeIn K (.ref fI) = some (.type "function") ∧ Fun K "__init__" "NotDetermined.__init__" s_NotDetermined___init__ fI fd
  xc_OtherSheet : XCB "RuntimeError" "RuntimeError.__new__" "RuntimeError.__init__" [.type "RuntimeError", .type "Exception", .type "BaseException", .type "object"] K mg "OtherSheet" c.OtherSheet
  nf_OtherSheet_index : PySem.W.findIn K (.ref c.OtherSheet) "index" = some none
  in_OtherSheet : ∃ (fI : Addr) (fd : FuncData), PySem.W.findIn K (.ref c.OtherSheet) "__init__" = some (some (.ref fI)) ∧ PySem.W.typeIn K (.ref fI) = some (.type "function") ∧ Fun K "__init__" "OtherSheet.__init__" s_OtherSheet___init__ fI fd
  xc_Refused : XCB "RuntimeError" "RuntimeError.__new__" "RuntimeError.__init__" [.type "RuntimeError", .type "Exception", .type "BaseException", .type "object"] K mg "Refused" c.Refused
  nf_Refused_field : PySem.W.findIn K (.ref c.Refused) "field" = some none
  nf_Refused_level : PySem.W.findIn K (.ref c.Refused) "level" = some none
  nf_Refused_cause : PySem.W.findIn K (.ref c.Refused) "cause" = some none
  in_Refused : ∃ (fI : Addr) (fd : FuncData), PySem.W.findIn K (.ref c.Refused) "__init__" = some (some (.ref fI)) ∧ PySem.W.typeIn K (.ref fI) = some (.type "function") ∧ Fun K "__init__" "Refused.__init__" s_Refused___init__ fI fd
  xc_Impossible : XCB "RuntimeError" "RuntimeError.__new__" "RuntimeError.__init__" [.type "RuntimeError", .type "Exception", .type "BaseException", .type "object"] K mg "Impossible" c.Impossible
  nf_Impossible_conflict : PySem.W.findIn K (.ref c.Impossible) "conflict" = some none
  in_Impossible : ∃ (fI : Addr) (fd : FuncData), PySem.W.findIn K (.ref c.Impossible) "__init__" = some (some (.ref fI)) ∧ PySem.W.typeIn K (.ref fI) = some (.type "function") ∧ Fun K "__init__" "Impossible.__init__" s_Impossible___init__ fI fd
  xc_RunFailed : XCB "RuntimeError" "RuntimeError.__new__" "RuntimeError.__init__" [.type "RuntimeError", .type "Exception", .type "BaseException", .type "object"] K mg "RunFailed" c.RunFailed
  nf_RunFailed_position : PySem.W.findIn K (.ref c.RunFailed) "position" = some none
  nf_RunFailed_results : PySem.W.findIn K (.ref c.RunFailed) "results" = some none
  in_RunFailed : ∃ (fI : Addr) (fd : FuncData), PySem.W.findIn K (.ref c.RunFailed) "__init__" = some (some (.ref fI)) ∧ PySem.W.typeIn K (.ref fI) = some (.type "function") ∧ Fun K "__init__" "RunFailed.__init__" s_RunFailed___init__ fI fd
  xn_NothingToTakeBack : mg "NothingToTakeBack" = some (.ref c.NothingToTakeBack) ∧ (ExcC K c.NothingToTakeBack ∧ PySem.W.keepIn K (.ref c.NothingToTakeBack) = true) ∧ ExcBaseFacts "RuntimeError" "RuntimeError.__new__" "RuntimeError.__init__" [.type "RuntimeError", .type "Exception", .type "BaseException", .type "object"] ∧ PySem.W.excIn K c.NothingToTakeBack [.type "RuntimeError", .type "Exception", .type "BaseException", .type "object"] "RuntimeError.__new__" = true
  xc_TooMany : XCB "ArithmeticError" "ArithmeticError.__new__" "ArithmeticError.__init__" [.type "ArithmeticError", .type "Exception", .type "BaseException", .type "object"] K mg "TooMany" c.TooMany
  nf_TooMany_kind : PySem.W.findIn K (.ref c.TooMany) "kind" = some none
  nf_TooMany_limit : PySem.W.findIn K (.ref c.TooMany) "limit" = some none
  in_TooMany : ∃ (fI : Addr) (fd : FuncData), PySem.W.findIn K (.ref c.TooMany) "__init__" = some (some (.ref fI)) ∧ PySem.W.typeIn K (.ref fI) = some (.type "function") ∧ Fun K "__init__" "TooMany.__init__" s_TooMany___init__ fI fd
  xc_NoQuotient : XCB "ArithmeticError" "ArithmeticError.__new__" "ArithmeticError.__init__" [.type "ArithmeticError", .type "Exception", .type "BaseException", .type "object"] K mg "NoQuotient" c.NoQuotient
  nf_NoQuotient_value : PySem.W.findIn K (.ref c.NoQuotient) "value" = some none
  in_NoQuotient : ∃ (fI : Addr) (fd : FuncData), PySem.W.findIn K (.ref c.NoQuotient) "__init__" = some (some (.ref fI)) ∧ PySem.W.typeIn K (.ref fI) = some (.type "function") ∧ Fun K "__init__" "NoQuotient.__init__" s_NoQuotient___init__ fI fd
  xn_LastheldError : mg "LastheldError" = some (.ref c.LastheldError) ∧ (ExcC K c.LastheldError ∧ PySem.W.keepIn K (.ref c.LastheldError) = true) ∧ ExcBaseFacts "ValueError" "ValueError.__new__" "ValueError.__init__" [.type "ValueError", .type "Exception", .type "BaseException", .type "object"] ∧ PySem.W.excIn K c.LastheldError [.type "ValueError", .type "Exception", .type "BaseException", .type "object"] "ValueError.__new__" = true
  xn_MissingError : mg "MissingError" = some (.ref c.MissingError) ∧ (ExcC K c.MissingError ∧ PySem.W.keepIn K (.ref c.MissingError) = true) ∧ ExcBaseFacts "LookupError" "LookupError.__new__" "LookupError.__init__" [.type "LookupError", .type "Exception", .type "BaseException", .type "object"] ∧ PySem.W.excIn K c.MissingError [.type "LookupError", .type "Exception", .type "BaseException", .type "object"] "LookupError.__new__" = true
  xn_StateError : mg "StateError" = some (.ref c.StateError) ∧ (ExcC K c.StateError ∧ PySem.W.keepIn K (.ref c.StateError) = true) ∧ ExcBaseFacts "RuntimeError" "RuntimeError.__new__" "RuntimeError.__init__" [.type "RuntimeError", .type "Exception", .type "BaseException", .type "object"] ∧ PySem.W.excIn K c.StateError [.type "RuntimeError", .type "Exception", .type "BaseException", .type "object"] "RuntimeError.__new__" = true
  xn_LimitError : mg "LimitError" = some (.ref c.LimitError) ∧ (ExcC K c.LimitError ∧ PySem.W.keepIn K (.ref c.LimitError) = true) ∧ ExcBaseFacts "ArithmeticError" "ArithmeticError.__new__" "ArithmeticError.__init__" [.type "ArithmeticError", .type "Exception", .type "BaseException", .type "object"] ∧ PySem.W.excIn K c.LimitError [.type "ArithmeticError", .type "Exception", .type "BaseException", .type "object"] "ArithmeticError.__new__" = true
  xall : XAll K [c.InvalidName, c.InvalidNumber, c.InvalidLevel, c.InvalidClock, c.InvalidCount, c.InvalidFields, c.InvalidEquation, c.InvalidEquations, c.InvalidSetting, c.InvalidSettings, c.InvalidPairs, c.InvalidWishes, c.InvalidNames, c.InvalidText, c.InvalidCommand, c.UnknownField, c.UnknownReplica, c.UnknownMessage, c.NotFree, c.NotDetermined, c.OtherSheet, c.Refused, c.Impossible, c.RunFailed, c.NothingToTakeBack, c.TooMany, c.NoQuotient, c.LastheldError, c.MissingError, c.StateError, c.LimitError]
theorem v_InvalidName {P : Program} {w : World} {K : PySem.W.Frag} {mg : Str → Option Value} {base : Heap} {c : Cls} (T : Txt K mg c) : XV "ValueError" "ValueError.__new__" "ValueError.__init__" [.type "ValueError", .type "Exception", .type "BaseException", .type "object"] P w K mg base "InvalidName" c.InvalidName 1 ["self", "value"] [] (fun vs _ => vs) (spIV c.InvalidName ["value"]) := by
  obtain ⟨fI, fd, h1, h2, F⟩ := T.in_InvalidName
  have B_LastheldError := T.xb_LastheldError
  have FO : FnOk P w K mg base CX0 1 fI fd ["self", "value"] (spIV c.InvalidName ["value"]) := F.ok sc_InvalidName___init__ (fun vs H Q E h => by obtain ⟨a, ws, rfl, l, _⟩ := h; rw [List.length_cons, l]; rfl) (fun cdv A outer s H vs Q E hr h => ⟨_, (pss_cons (ps_expr (pe_biB (B := "ValueError") (newId := "ValueError.__new__") (initId := "ValueError.__init__") (bt := [.type "ValueError", .type "Exception", .type "BaseException", .type "object"]) B_LastheldError (by rfl) (pa_cons (pv 0) (pa_cons pe_str pa_nil))))
    (pss_one (ps_ostB (B := "ValueError") (newId := "ValueError.__new__") (initId := "ValueError.__init__") (bt := [.type "ValueError", .type "Exception", .type "BaseException", .type "object"]) (pv 0) (pv 1)))), rd_initV1 (z := "the value is not a name") T.xc_InvalidName.ox T.nf_InvalidName_value h⟩)
  exact ⟨T.xc_InvalidName.g, T.xc_InvalidName.ox, fI, fd, _, h1, h2, FO, KBn.pos (F.binds fun _ _ _ _ _ _ us hl => match us, hl with | [_, _], _ => rfl) rfl⟩
theorem vk_InvalidName {P : Program} {w : World} {K : PySem.W.Frag} {mg : Str → Option Value} {base : Heap} {c : Cls} (T : Txt K mg c) : XV "ValueError" "ValueError.__new__" "ValueError.__init__" [.type "ValueError", .type "Exception", .type "BaseException", .type "object"] P w K mg base "InvalidName" c.InvalidName 0 ["self", "value"] ["value"] (fun us ws => us ++ (ws.drop 1 ++ ws.take 1)) (spIV c.InvalidName ["value"]) := by
  obtain ⟨fI, fd, h1, h2, F⟩ := T.in_InvalidName
  have B_LastheldError := T.xb_LastheldError
  have FO : FnOk P w K mg base CX0 1 fI fd ["self", "value"] (spIV c.InvalidName ["value"]) := F.ok sc_InvalidName___init__ (fun vs H Q E h => by obtain ⟨a, ws, rfl, l, _⟩ := h; rw [List.length_cons, l]; rfl) (fun cdv A outer s H vs Q E hr h => ⟨_, (pss_cons (ps_expr (pe_biB (B := "ValueError") (newId := "ValueError.__new__") (initId := "ValueError.__init__") (bt := [.type "ValueError", .type "Exception", .type "BaseException", .type "object"]) B_LastheldError (by rfl) (pa_cons (pv 0) (pa_cons pe_str pa_nil))))
    (pss_one (ps_ostB (B := "ValueError") (newId := "ValueError.__new__") (initId := "ValueError.__init__") (bt := [.type "ValueError", .type "Exception", .type "BaseException", .type "object"]) (pv 0) (pv 1)))), rd_initV1 (z := "the value is not a name") T.xc_InvalidName.ox T.nf_InvalidName_value h⟩)
  exact ⟨T.xc_InvalidName.g, T.xc_InvalidName.ox, fI, fd, (fun us ws => us ++ (ws.drop 1 ++ ws.take 1)), h1, h2, FO, fun_kbn F (fun _ _ _ _ _ _ us ws h1 h2 => match us, ws, h1, h2 with | [_], [_], _, _ => rfl) rot_rel⟩
theorem v_InvalidNumber {P : Program} {w : World} {K : PySem.W.Frag} {mg : Str → Option Value} {base : Heap} {c : Cls} (T : Txt K mg c) : XV "ValueError" "ValueError.__new__" "ValueError.__init__" [.type "ValueError", .type "Exception", .type "BaseException", .type "object"] P w K mg base "InvalidNumber" c.InvalidNumber 1 ["self", "value"] [] (fun vs _ => vs) (spIV c.InvalidNumber ["value"]) := by
  obtain ⟨fI, fd, h1, h2, F⟩ := T.in_InvalidNumber
  have B_LastheldError := T.xb_LastheldError
  have FO : FnOk P w K mg base CX0 1 fI fd ["self", "value"] (spIV c.InvalidNumber ["value"]) := F.ok sc_InvalidNumber___init__ (fun vs H Q E h => by obtain ⟨a, ws, rfl, l, _⟩ := h; rw [List.length_cons, l]; rfl) (fun cdv A outer s H vs Q E hr h => ⟨_, (pss_cons (ps_expr (pe_biB (B := "ValueError") (newId := "ValueError.__new__") (initId := "ValueError.__init__") (bt := [.type "ValueError", .type "Exception", .type "BaseException", .type "object"]) B_LastheldError (by rfl) (pa_cons (pv 0) (pa_cons pe_str pa_nil))))
    (pss_one (ps_ostB (B := "ValueError") (newId := "ValueError.__new__") (initId := "ValueError.__init__") (bt := [.type "ValueError", .type "Exception", .type "BaseException", .type "object"]) (pv 0) (pv 1)))), rd_initV1 (z := "the value is not a number") T.xc_InvalidNumber.ox T.nf_InvalidNumber_value h⟩)
  exact ⟨T.xc_InvalidNumber.g, T.xc_InvalidNumber.ox, fI, fd, _, h1, h2, FO, KBn.pos (F.binds fun _ _ _ _ _ _ us hl => match us, hl with | [_, _], _ => rfl) rfl⟩
theorem vk_InvalidNumber {P : Program} {w : World} {K : PySem.W.Frag} {mg : Str → Option Value} {base : Heap} {c : Cls} (T : Txt K mg c) : XV "ValueError" "ValueError.__new__" "ValueError.__init__" [.type "ValueError", .type "Exception", .type "BaseException", .type "object"] P w K mg base "InvalidNumber" c.InvalidNumber 0 ["self", "value"] ["value"] (fun us ws => us ++ (ws.drop 1 ++ ws.take 1)) (spIV c.InvalidNumber ["value"]) := by
  obtain ⟨fI, fd, h1, h2, F⟩ := T.in_InvalidNumber
  have B_LastheldError := T.xb_LastheldError
  have FO : FnOk P w K mg base CX0 1 fI fd ["self", "value"] (spIV c.InvalidNumber ["value"]) := F.ok sc_InvalidNumber___init__ (fun vs H Q E h => by obtain ⟨a, ws, rfl, l, _⟩ := h; rw [List.length_cons, l]; rfl) (fun cdv A outer s H vs Q E hr h => ⟨_, (pss_cons (ps_expr (pe_biB (B := "ValueError") (newId := "ValueError.__new__") (initId := "ValueError.__init__") (bt := [.type "ValueError", .type "Exception", .type "BaseException", .type "object"]) B_LastheldError (by rfl) (pa_cons (pv 0) (pa_cons pe_str pa_nil))))
    (pss_one (ps_ostB (B := "ValueError") (newId := "ValueError.__new__") (initId := "ValueError.__init__") (bt := [.type "ValueError", .type "Exception", .type "BaseException", .type "object"]) (pv 0) (pv 1)))), rd_initV1 (z := "the value is not a number") T.xc_InvalidNumber.ox T.nf_InvalidNumber_value h⟩)
  exact ⟨T.xc_InvalidNumber.g, T.xc_InvalidNumber.ox, fI, fd, (fun us ws => us ++ (ws.drop 1 ++ ws.take 1)), h1, h2, FO, fun_kbn F (fun _ _ _ _ _ _ us ws h1 h2 => match us, ws, h1, h2 with | [_], [_], _, _ => rfl) rot_rel⟩
theorem v_InvalidLevel {P : Program} {w : World} {K : PySem.W.Frag} {mg : Str → Option Value} {base : Heap} {c : Cls} (T : Txt K mg c) : XV "ValueError" "ValueError.__new__" "ValueError.__init__" [.type "ValueError", .type "Exception", .type "BaseException", .type "object"] P w K mg base "InvalidLevel" c.InvalidLevel 1 ["self", "value"] [] (fun vs _ => vs) (spIV c.InvalidLevel ["value"]) := by
  obtain ⟨fI, fd, h1, h2, F⟩ := T.in_InvalidLevel
  have B_LastheldError := T.xb_LastheldError
  have FO : FnOk P w K mg base CX0 1 fI fd ["self", "value"] (spIV c.InvalidLevel ["value"]) := F.ok sc_InvalidLevel___init__ (fun vs H Q E h => by obtain ⟨a, ws, rfl, l, _⟩ := h; rw [List.length_cons, l]; rfl) (fun cdv A outer s H vs Q E hr h => ⟨_, (pss_cons (ps_expr (pe_biB (B := "ValueError") (newId := "ValueError.__new__") (initId := "ValueError.__init__") (bt := [.type "ValueError", .type "Exception", .type "BaseException", .type "object"]) B_LastheldError (by rfl) (pa_cons (pv 0) (pa_cons pe_str pa_nil))))
    (pss_one (ps_ostB (B := "ValueError") (newId := "ValueError.__new__") (initId := "ValueError.__init__") (bt := [.type "ValueError", .type "Exception", .type "BaseException", .type "object"]) (pv 0) (pv 1)))), rd_initV1 (z := "the value is not a level") T.xc_InvalidLevel.ox T.nf_InvalidLevel_value h⟩)
  exact ⟨T.xc_InvalidLevel.g, T.xc_InvalidLevel.ox, fI, fd, _, h1, h2, FO, KBn.pos (F.binds fun _ _ _ _ _ _ us hl => match us, hl with | [_, _], _ => rfl) rfl⟩
theorem vk_InvalidLevel {P : Program} {w : World} {K : PySem.W.Frag} {mg : Str → Option Value} {base : Heap} {c : Cls} (T : Txt K mg c) : XV "ValueError" "ValueError.__new__" "ValueError.__init__" [.type "ValueError", .type "Exception", .type "BaseException", .type "object"] P w K mg base "InvalidLevel" c.InvalidLevel 0 ["self", "value"] ["value"] (fun us ws => us ++ (ws.drop 1 ++ ws.take 1)) (spIV c.InvalidLevel ["value"]) := by
  obtain ⟨fI, fd, h1, h2, F⟩ := T.in_InvalidLevel
  have B_LastheldError := T.xb_LastheldError
  have FO : FnOk P w K mg base CX0 1 fI fd ["self", "value"] (spIV c.InvalidLevel ["value"]) := F.ok sc_InvalidLevel___init__ (fun vs H Q E h => by obtain ⟨a, ws, rfl, l, _⟩ := h; rw [List.length_cons, l]; rfl) (fun cdv A outer s H vs Q E hr h => ⟨_, (pss_cons (ps_expr (pe_biB (B := "ValueError") (newId := "ValueError.__new__") (initId := "ValueError.__init__") (bt := [.type "ValueError", .type "Exception", .type "BaseException", .type "object"]) B_LastheldError (by rfl) (pa_cons (pv 0) (pa_cons pe_str pa_nil))))
    (pss_one (ps_ostB (B := "ValueError") (newId := "ValueError.__new__") (initId := "ValueError.__init__") (bt := [.type "ValueError", .type "Exception", .type "BaseException", .type "object"]) (pv 0) (pv 1)))), rd_initV1 (z := "the value is not a level") T.xc_InvalidLevel.ox T.nf_InvalidLevel_value h⟩)
  exact ⟨T.xc_InvalidLevel.g, T.xc_InvalidLevel.ox, fI, fd, (fun us ws => us ++ (ws.drop 1 ++ ws.take 1)), h1, h2, FO, fun_kbn F (fun _ _ _ _ _ _ us ws h1 h2 => match us, ws, h1, h2 with | [_], [_], _, _ => rfl) rot_rel⟩
theorem v_InvalidClock {P : Program} {w : World} {K : PySem.W.Frag} {mg : Str → Option Value} {base : Heap} {c : Cls} (T : Txt K mg c) : XV "ValueError" "ValueError.__new__" "ValueError.__init__" [.type "ValueError", .type "Exception", .type "BaseException", .type "object"] P w K mg base "InvalidClock" c.InvalidClock 1 ["self", "value"] [] (fun vs _ => vs) (spIV c.InvalidClock ["value"]) := by
  obtain ⟨fI, fd, h1, h2, F⟩ := T.in_InvalidClock
  have B_LastheldError := T.xb_LastheldError
  have FO : FnOk P w K mg base CX0 1 fI fd ["self", "value"] (spIV c.InvalidClock ["value"]) := F.ok sc_InvalidClock___init__ (fun vs H Q E h => by obtain ⟨a, ws, rfl, l, _⟩ := h; rw [List.length_cons, l]; rfl) (fun cdv A outer s H vs Q E hr h => ⟨_, (pss_cons (ps_expr (pe_biB (B := "ValueError") (newId := "ValueError.__new__") (initId := "ValueError.__init__") (bt := [.type "ValueError", .type "Exception", .type "BaseException", .type "object"]) B_LastheldError (by rfl) (pa_cons (pv 0) (pa_cons pe_str pa_nil))))
    (pss_one (ps_ostB (B := "ValueError") (newId := "ValueError.__new__") (initId := "ValueError.__init__") (bt := [.type "ValueError", .type "Exception", .type "BaseException", .type "object"]) (pv 0) (pv 1)))), rd_initV1 (z := "the value is not a clock") T.xc_InvalidClock.ox T.nf_InvalidClock_value h⟩)
  exact ⟨T.xc_InvalidClock.g, T.xc_InvalidClock.ox, fI, fd, _, h1, h2, FO, KBn.pos (F.binds fun _ _ _ _ _ _ us hl => match us, hl with | [_, _], _ => rfl) rfl⟩
theorem vk_InvalidClock {P : Program} {w : World} {K : PySem.W.Frag} {mg : Str → Option Value} {base : Heap} {c : Cls} (T : Txt K mg c) : XV "ValueError" "ValueError.__new__" "ValueError.__init__" [.type "ValueError", .type "Exception", .type "BaseException", .type "object"] P w K mg base "InvalidClock" c.InvalidClock 0 ["self", "value"] ["value"] (fun us ws => us ++ (ws.drop 1 ++ ws.take 1)) (spIV c.InvalidClock ["value"]) := by
  obtain ⟨fI, fd, h1, h2, F⟩ := T.in_InvalidClock
  have B_LastheldError := T.xb_LastheldError
  have FO : FnOk P w K mg base CX0 1 fI fd ["self", "value"] (spIV c.InvalidClock ["value"]) := F.ok sc_InvalidClock___init__ (fun vs H Q E h => by obtain ⟨a, ws, rfl, l, _⟩ := h; rw [List.length_cons, l]; rfl) (fun cdv A outer s H vs Q E hr h => ⟨_, (pss_cons (ps_expr (pe_biB (B := "ValueError") (newId := "ValueError.__new__") (initId := "ValueError.__init__") (bt := [.type "ValueError", .type "Exception", .type "BaseException", .type "object"]) B_LastheldError (by rfl) (pa_cons (pv 0) (pa_cons pe_str pa_nil))))
    (pss_one (ps_ostB (B := "ValueError") (newId := "ValueError.__new__") (initId := "ValueError.__init__") (bt := [.type "ValueError", .type "Exception", .type "BaseException", .type "object"]) (pv 0) (pv 1)))), rd_initV1 (z := "the value is not a clock") T.xc_InvalidClock.ox T.nf_InvalidClock_value h⟩)
  exact ⟨T.xc_InvalidClock.g, T.xc_InvalidClock.ox, fI, fd, (fun us ws => us ++ (ws.drop 1 ++ ws.take 1)), h1, h2, FO, fun_kbn F (fun _ _ _ _ _ _ us ws h1 h2 => match us, ws, h1, h2 with | [_], [_], _, _ => rfl) rot_rel⟩
theorem v_InvalidCount {P : Program} {w : World} {K : PySem.W.Frag} {mg : Str → Option Value} {base : Heap} {c : Cls} (T : Txt K mg c) : XV "ValueError" "ValueError.__new__" "ValueError.__init__" [.type "ValueError", .type "Exception", .type "BaseException", .type "object"] P w K mg base "InvalidCount" c.InvalidCount 1 ["self", "value"] [] (fun vs _ => vs) (spIV c.InvalidCount ["value"]) := by
  obtain ⟨fI, fd, h1, h2, F⟩ := T.in_InvalidCount
  have B_LastheldError := T.xb_LastheldError
  have FO : FnOk P w K mg base CX0 1 fI fd ["self", "value"] (spIV c.InvalidCount ["value"]) := F.ok sc_InvalidCount___init__ (fun vs H Q E h => by obtain ⟨a, ws, rfl, l, _⟩ := h; rw [List.length_cons, l]; rfl) (fun cdv A outer s H vs Q E hr h => ⟨_, (pss_cons (ps_expr (pe_biB (B := "ValueError") (newId := "ValueError.__new__") (initId := "ValueError.__init__") (bt := [.type "ValueError", .type "Exception", .type "BaseException", .type "object"]) B_LastheldError (by rfl) (pa_cons (pv 0) (pa_cons pe_str pa_nil))))
    (pss_one (ps_ostB (B := "ValueError") (newId := "ValueError.__new__") (initId := "ValueError.__init__") (bt := [.type "ValueError", .type "Exception", .type "BaseException", .type "object"]) (pv 0) (pv 1)))), rd_initV1 (z := "the value is not an allowed count") T.xc_InvalidCount.ox T.nf_InvalidCount_value h⟩)
  exact ⟨T.xc_InvalidCount.g, T.xc_InvalidCount.ox, fI, fd, _, h1, h2, FO, KBn.pos (F.binds fun _ _ _ _ _ _ us hl => match us, hl with | [_, _], _ => rfl) rfl⟩
theorem vk_InvalidCount {P : Program} {w : World} {K : PySem.W.Frag} {mg : Str → Option Value} {base : Heap} {c : Cls} (T : Txt K mg c) : XV "ValueError" "ValueError.__new__" "ValueError.__init__" [.type "ValueError", .type "Exception", .type "BaseException", .type "object"] P w K mg base "InvalidCount" c.InvalidCount 0 ["self", "value"] ["value"] (fun us ws => us ++ (ws.drop 1 ++ ws.take 1)) (spIV c.InvalidCount ["value"]) := by
  obtain ⟨fI, fd, h1, h2, F⟩ := T.in_InvalidCount
  have B_LastheldError := T.xb_LastheldError
  have FO : FnOk P w K mg base CX0 1 fI fd ["self", "value"] (spIV c.InvalidCount ["value"]) := F.ok sc_InvalidCount___init__ (fun vs H Q E h => by obtain ⟨a, ws, rfl, l, _⟩ := h; rw [List.length_cons, l]; rfl) (fun cdv A outer s H vs Q E hr h => ⟨_, (pss_cons (ps_expr (pe_biB (B := "ValueError") (newId := "ValueError.__new__") (initId := "ValueError.__init__") (bt := [.type "ValueError", .type "Exception", .type "BaseException", .type "object"]) B_LastheldError (by rfl) (pa_cons (pv 0) (pa_cons pe_str pa_nil))))
    (pss_one (ps_ostB (B := "ValueError") (newId := "ValueError.__new__") (initId := "ValueError.__init__") (bt := [.type "ValueError", .type "Exception", .type "BaseException", .type "object"]) (pv 0) (pv 1)))), rd_initV1 (z := "the value is not an allowed count") T.xc_InvalidCount.ox T.nf_InvalidCount_value h⟩)
  exact ⟨T.xc_InvalidCount.g, T.xc_InvalidCount.ox, fI, fd, (fun us ws => us ++ (ws.drop 1 ++ ws.take 1)), h1, h2, FO, fun_kbn F (fun _ _ _ _ _ _ us ws h1 h2 => match us, ws, h1, h2 with | [_], [_], _, _ => rfl) rot_rel⟩
theorem v_InvalidFields {P : Program} {w : World} {K : PySem.W.Frag} {mg : Str → Option Value} {base : Heap} {c : Cls} (T : Txt K mg c) : XV "ValueError" "ValueError.__new__" "ValueError.__init__" [.type "ValueError", .type "Exception", .type "BaseException", .type "object"] P w K mg base "InvalidFields" c.InvalidFields 1 ["self", "index"] [] (fun vs _ => vs) (spIV c.InvalidFields ["index"]) := by
  obtain ⟨fI, fd, h1, h2, F⟩ := T.in_InvalidFields
  have B_LastheldError := T.xb_LastheldError
  have FO : FnOk P w K mg base CX0 1 fI fd ["self", "index"] (spIV c.InvalidFields ["index"]) := F.ok sc_InvalidFields___init__ (fun vs H Q E h => by obtain ⟨a, ws, rfl, l, _⟩ := h; rw [List.length_cons, l]; rfl) (fun cdv A outer s H vs Q E hr h => ⟨_, (pss_cons (ps_expr (pe_biB (B := "ValueError") (newId := "ValueError.__new__") (initId := "ValueError.__init__") (bt := [.type "ValueError", .type "Exception", .type "BaseException", .type "object"]) B_LastheldError (by rfl) (pa_cons (pv 0) (pa_cons pe_str pa_nil))))
    (pss_one (ps_ostB (B := "ValueError") (newId := "ValueError.__new__") (initId := "ValueError.__init__") (bt := [.type "ValueError", .type "Exception", .type "BaseException", .type "object"]) (pv 0) (pv 1)))), rd_initV1 (z := "the value is not a list of fields") T.xc_InvalidFields.ox T.nf_InvalidFields_index h⟩)
  exact ⟨T.xc_InvalidFields.g, T.xc_InvalidFields.ox, fI, fd, _, h1, h2, FO, KBn.pos (F.binds fun _ _ _ _ _ _ us hl => match us, hl with | [_, _], _ => rfl) rfl⟩
theorem vk_InvalidFields {P : Program} {w : World} {K : PySem.W.Frag} {mg : Str → Option Value} {base : Heap} {c : Cls} (T : Txt K mg c) : XV "ValueError" "ValueError.__new__" "ValueError.__init__" [.type "ValueError", .type "Exception", .type "BaseException", .type "object"] P w K mg base "InvalidFields" c.InvalidFields 0 ["self", "index"] ["index"] (fun us ws => us ++ (ws.drop 1 ++ ws.take 1)) (spIV c.InvalidFields ["index"]) := by
  obtain ⟨fI, fd, h1, h2, F⟩ := T.in_InvalidFields
  have B_LastheldError := T.xb_LastheldError
  have FO : FnOk P w K mg base CX0 1 fI fd ["self", "index"] (spIV c.InvalidFields ["index"]) := F.ok sc_InvalidFields___init__ (fun vs H Q E h => by obtain ⟨a, ws, rfl, l, _⟩ := h; rw [List.length_cons, l]; rfl) (fun cdv A outer s H vs Q E hr h => ⟨_, (pss_cons (ps_expr (pe_biB (B := "ValueError") (newId := "ValueError.__new__") (initId := "ValueError.__init__") (bt := [.type "ValueError", .type "Exception", .type "BaseException", .type "object"]) B_LastheldError (by rfl) (pa_cons (pv 0) (pa_cons pe_str pa_nil))))
    (pss_one (ps_ostB (B := "ValueError") (newId := "ValueError.__new__") (initId := "ValueError.__init__") (bt := [.type "ValueError", .type "Exception", .type "BaseException", .type "object"]) (pv 0) (pv 1)))), rd_initV1 (z := "the value is not a list of fields") T.xc_InvalidFields.ox T.nf_InvalidFields_index h⟩)
  exact ⟨T.xc_InvalidFields.g, T.xc_InvalidFields.ox, fI, fd, (fun us ws => us ++ (ws.drop 1 ++ ws.take 1)), h1, h2, FO, fun_kbn F (fun _ _ _ _ _ _ us ws h1 h2 => match us, ws, h1, h2 with | [_], [_], _, _ => rfl) rot_rel⟩
theorem v_InvalidEquation {P : Program} {w : World} {K : PySem.W.Frag} {mg : Str → Option Value} {base : Heap} {c : Cls} (T : Txt K mg c) : XV "ValueError" "ValueError.__new__" "ValueError.__init__" [.type "ValueError", .type "Exception", .type "BaseException", .type "object"] P w K mg base "InvalidEquation" c.InvalidEquation 1 ["self", "value"] [] (fun vs _ => vs) (spIV c.InvalidEquation ["value"]) := by
  obtain ⟨fI, fd, h1, h2, F⟩ := T.in_InvalidEquation
  have B_LastheldError := T.xb_LastheldError
  have FO : FnOk P w K mg base CX0 1 fI fd ["self", "value"] (spIV c.InvalidEquation ["value"]) := F.ok sc_InvalidEquation___init__ (fun vs H Q E h => by obtain ⟨a, ws, rfl, l, _⟩ := h; rw [List.length_cons, l]; rfl) (fun cdv A outer s H vs Q E hr h => ⟨_, (pss_cons (ps_expr (pe_biB (B := "ValueError") (newId := "ValueError.__new__") (initId := "ValueError.__init__") (bt := [.type "ValueError", .type "Exception", .type "BaseException", .type "object"]) B_LastheldError (by rfl) (pa_cons (pv 0) (pa_cons pe_str pa_nil))))
    (pss_one (ps_ostB (B := "ValueError") (newId := "ValueError.__new__") (initId := "ValueError.__init__") (bt := [.type "ValueError", .type "Exception", .type "BaseException", .type "object"]) (pv 0) (pv 1)))), rd_initV1 (z := "the value is not an equation") T.xc_InvalidEquation.ox T.nf_InvalidEquation_value h⟩)
  exact ⟨T.xc_InvalidEquation.g, T.xc_InvalidEquation.ox, fI, fd, _, h1, h2, FO, KBn.pos (F.binds fun _ _ _ _ _ _ us hl => match us, hl with | [_, _], _ => rfl) rfl⟩
theorem vk_InvalidEquation {P : Program} {w : World} {K : PySem.W.Frag} {mg : Str → Option Value} {base : Heap} {c : Cls} (T : Txt K mg c) : XV "ValueError" "ValueError.__new__" "ValueError.__init__" [.type "ValueError", .type "Exception", .type "BaseException", .type "object"] P w K mg base "InvalidEquation" c.InvalidEquation 0 ["self", "value"] ["value"] (fun us ws => us ++ (ws.drop 1 ++ ws.take 1)) (spIV c.InvalidEquation ["value"]) := by
  obtain ⟨fI, fd, h1, h2, F⟩ := T.in_InvalidEquation
  have B_LastheldError := T.xb_LastheldError
  have FO : FnOk P w K mg base CX0 1 fI fd ["self", "value"] (spIV c.InvalidEquation ["value"]) := F.ok sc_InvalidEquation___init__ (fun vs H Q E h => by obtain ⟨a, ws, rfl, l, _⟩ := h; rw [List.length_cons, l]; rfl) (fun cdv A outer s H vs Q E hr h => ⟨_, (pss_cons (ps_expr (pe_biB (B := "ValueError") (newId := "ValueError.__new__") (initId := "ValueError.__init__") (bt := [.type "ValueError", .type "Exception", .type "BaseException", .type "object"]) B_LastheldError (by rfl) (pa_cons (pv 0) (pa_cons pe_str pa_nil))))
    (pss_one (ps_ostB (B := "ValueError") (newId := "ValueError.__new__") (initId := "ValueError.__init__") (bt := [.type "ValueError", .type "Exception", .type "BaseException", .type "object"]) (pv 0) (pv 1)))), rd_initV1 (z := "the value is not an equation") T.xc_InvalidEquation.ox T.nf_InvalidEquation_value h⟩)
  exact ⟨T.xc_InvalidEquation.g, T.xc_InvalidEquation.ox, fI, fd, (fun us ws => us ++ (ws.drop 1 ++ ws.take 1)), h1, h2, FO, fun_kbn F (fun _ _ _ _ _ _ us ws h1 h2 => match us, ws, h1, h2 with | [_], [_], _, _ => rfl) rot_rel⟩
theorem v_InvalidEquations {P : Program} {w : World} {K : PySem.W.Frag} {mg : Str → Option Value} {base : Heap} {c : Cls} (T : Txt K mg c) : XV "ValueError" "ValueError.__new__" "ValueError.__init__" [.type "ValueError", .type "Exception", .type "BaseException", .type "object"] P w K mg base "InvalidEquations" c.InvalidEquations 1 ["self", "index"] [] (fun vs _ => vs) (spIV c.InvalidEquations ["index"]) := by
  obtain ⟨fI, fd, h1, h2, F⟩ := T.in_InvalidEquations
  have B_LastheldError := T.xb_LastheldError
  have FO : FnOk P w K mg base CX0 1 fI fd ["self", "index"] (spIV c.InvalidEquations ["index"]) := F.ok sc_InvalidEquations___init__ (fun vs H Q E h => by obtain ⟨a, ws, rfl, l, _⟩ := h; rw [List.length_cons, l]; rfl) (fun cdv A outer s H vs Q E hr h => ⟨_, (pss_cons (ps_expr (pe_biB (B := "ValueError") (newId := "ValueError.__new__") (initId := "ValueError.__init__") (bt := [.type "ValueError", .type "Exception", .type "BaseException", .type "object"]) B_LastheldError (by rfl) (pa_cons (pv 0) (pa_cons pe_str pa_nil))))
    (pss_one (ps_ostB (B := "ValueError") (newId := "ValueError.__new__") (initId := "ValueError.__init__") (bt := [.type "ValueError", .type "Exception", .type "BaseException", .type "object"]) (pv 0) (pv 1)))), rd_initV1 (z := "the value is not a list of equations") T.xc_InvalidEquations.ox T.nf_InvalidEquations_index h⟩)
  exact ⟨T.xc_InvalidEquations.g, T.xc_InvalidEquations.ox, fI, fd, _, h1, h2, FO, KBn.pos (F.binds fun _ _ _ _ _ _ us hl => match us, hl with | [_, _], _ => rfl) rfl⟩
theorem vk_InvalidEquations {P : Program} {w : World} {K : PySem.W.Frag} {mg : Str → Option Value} {base : Heap} {c : Cls} (T : Txt K mg c) : XV "ValueError" "ValueError.__new__" "ValueError.__init__" [.type "ValueError", .type "Exception", .type "BaseException", .type "object"] P w K mg base "InvalidEquations" c.InvalidEquations 0 ["self", "index"] ["index"] (fun us ws => us ++ (ws.drop 1 ++ ws.take 1)) (spIV c.InvalidEquations ["index"]) := by
  obtain ⟨fI, fd, h1, h2, F⟩ := T.in_InvalidEquations
  have B_LastheldError := T.xb_LastheldError
  have FO : FnOk P w K mg base CX0 1 fI fd ["self", "index"] (spIV c.InvalidEquations ["index"]) := F.ok sc_InvalidEquations___init__ (fun vs H Q E h => by obtain ⟨a, ws, rfl, l, _⟩ := h; rw [List.length_cons, l]; rfl) (fun cdv A outer s H vs Q E hr h => ⟨_, (pss_cons (ps_expr (pe_biB (B := "ValueError") (newId := "ValueError.__new__") (initId := "ValueError.__init__") (bt := [.type "ValueError", .type "Exception", .type "BaseException", .type "object"]) B_LastheldError (by rfl) (pa_cons (pv 0) (pa_cons pe_str pa_nil))))
    (pss_one (ps_ostB (B := "ValueError") (newId := "ValueError.__new__") (initId := "ValueError.__init__") (bt := [.type "ValueError", .type "Exception", .type "BaseException", .type "object"]) (pv 0) (pv 1)))), rd_initV1 (z := "the value is not a list of equations") T.xc_InvalidEquations.ox T.nf_InvalidEquations_index h⟩)
  exact ⟨T.xc_InvalidEquations.g, T.xc_InvalidEquations.ox, fI, fd, (fun us ws => us ++ (ws.drop 1 ++ ws.take 1)), h1, h2, FO, fun_kbn F (fun _ _ _ _ _ _ us ws h1 h2 => match us, ws, h1, h2 with | [_], [_], _, _ => rfl) rot_rel⟩
theorem v_InvalidSetting {P : Program} {w : World} {K : PySem.W.Frag} {mg : Str → Option Value} {base : Heap} {c : Cls} (T : Txt K mg c) : XV "ValueError" "ValueError.__new__" "ValueError.__init__" [.type "ValueError", .type "Exception", .type "BaseException", .type "object"] P w K mg base "InvalidSetting" c.InvalidSetting 1 ["self", "value"] [] (fun vs _ => vs) (spIV c.InvalidSetting ["value"]) := by
  obtain ⟨fI, fd, h1, h2, F⟩ := T.in_InvalidSetting
  have B_LastheldError := T.xb_LastheldError
  have FO : FnOk P w K mg base CX0 1 fI fd ["self", "value"] (spIV c.InvalidSetting ["value"]) := F.ok sc_InvalidSetting___init__ (fun vs H Q E h => by obtain ⟨a, ws, rfl, l, _⟩ := h; rw [List.length_cons, l]; rfl) (fun cdv A outer s H vs Q E hr h => ⟨_, (pss_cons (ps_expr (pe_biB (B := "ValueError") (newId := "ValueError.__new__") (initId := "ValueError.__init__") (bt := [.type "ValueError", .type "Exception", .type "BaseException", .type "object"]) B_LastheldError (by rfl) (pa_cons (pv 0) (pa_cons pe_str pa_nil))))
    (pss_one (ps_ostB (B := "ValueError") (newId := "ValueError.__new__") (initId := "ValueError.__init__") (bt := [.type "ValueError", .type "Exception", .type "BaseException", .type "object"]) (pv 0) (pv 1)))), rd_initV1 (z := "the value is not a setting") T.xc_InvalidSetting.ox T.nf_InvalidSetting_value h⟩)
  exact ⟨T.xc_InvalidSetting.g, T.xc_InvalidSetting.ox, fI, fd, _, h1, h2, FO, KBn.pos (F.binds fun _ _ _ _ _ _ us hl => match us, hl with | [_, _], _ => rfl) rfl⟩
theorem vk_InvalidSetting {P : Program} {w : World} {K : PySem.W.Frag} {mg : Str → Option Value} {base : Heap} {c : Cls} (T : Txt K mg c) : XV "ValueError" "ValueError.__new__" "ValueError.__init__" [.type "ValueError", .type "Exception", .type "BaseException", .type "object"] P w K mg base "InvalidSetting" c.InvalidSetting 0 ["self", "value"] ["value"] (fun us ws => us ++ (ws.drop 1 ++ ws.take 1)) (spIV c.InvalidSetting ["value"]) := by
  obtain ⟨fI, fd, h1, h2, F⟩ := T.in_InvalidSetting
  have B_LastheldError := T.xb_LastheldError
  have FO : FnOk P w K mg base CX0 1 fI fd ["self", "value"] (spIV c.InvalidSetting ["value"]) := F.ok sc_InvalidSetting___init__ (fun vs H Q E h => by obtain ⟨a, ws, rfl, l, _⟩ := h; rw [List.length_cons, l]; rfl) (fun cdv A outer s H vs Q E hr h => ⟨_, (pss_cons (ps_expr (pe_biB (B := "ValueError") (newId := "ValueError.__new__") (initId := "ValueError.__init__") (bt := [.type "ValueError", .type "Exception", .type "BaseException", .type "object"]) B_LastheldError (by rfl) (pa_cons (pv 0) (pa_cons pe_str pa_nil))))
    (pss_one (ps_ostB (B := "ValueError") (newId := "ValueError.__new__") (initId := "ValueError.__init__") (bt := [.type "ValueError", .type "Exception", .type "BaseException", .type "object"]) (pv 0) (pv 1)))), rd_initV1 (z := "the value is not a setting") T.xc_InvalidSetting.ox T.nf_InvalidSetting_value h⟩)
  exact ⟨T.xc_InvalidSetting.g, T.xc_InvalidSetting.ox, fI, fd, (fun us ws => us ++ (ws.drop 1 ++ ws.take 1)), h1, h2, FO, fun_kbn F (fun _ _ _ _ _ _ us ws h1 h2 => match us, ws, h1, h2 with | [_], [_], _, _ => rfl) rot_rel⟩
theorem v_InvalidSettings {P : Program} {w : World} {K : PySem.W.Frag} {mg : Str → Option Value} {base : Heap} {c : Cls} (T : Txt K mg c) : XV "ValueError" "ValueError.__new__" "ValueError.__init__" [.type "ValueError", .type "Exception", .type "BaseException", .type "object"] P w K mg base "InvalidSettings" c.InvalidSettings 1 ["self", "index"] [] (fun vs _ => vs) (spIV c.InvalidSettings ["index"]) := by
  obtain ⟨fI, fd, h1, h2, F⟩ := T.in_InvalidSettings
  have B_LastheldError := T.xb_LastheldError
  have FO : FnOk P w K mg base CX0 1 fI fd ["self", "index"] (spIV c.InvalidSettings ["index"]) := F.ok sc_InvalidSettings___init__ (fun vs H Q E h => by obtain ⟨a, ws, rfl, l, _⟩ := h; rw [List.length_cons, l]; rfl) (fun cdv A outer s H vs Q E hr h => ⟨_, (pss_cons (ps_expr (pe_biB (B := "ValueError") (newId := "ValueError.__new__") (initId := "ValueError.__init__") (bt := [.type "ValueError", .type "Exception", .type "BaseException", .type "object"]) B_LastheldError (by rfl) (pa_cons (pv 0) (pa_cons pe_str pa_nil))))
    (pss_one (ps_ostB (B := "ValueError") (newId := "ValueError.__new__") (initId := "ValueError.__init__") (bt := [.type "ValueError", .type "Exception", .type "BaseException", .type "object"]) (pv 0) (pv 1)))), rd_initV1 (z := "the value is not a list of settings") T.xc_InvalidSettings.ox T.nf_InvalidSettings_index h⟩)
  exact ⟨T.xc_InvalidSettings.g, T.xc_InvalidSettings.ox, fI, fd, _, h1, h2, FO, KBn.pos (F.binds fun _ _ _ _ _ _ us hl => match us, hl with | [_, _], _ => rfl) rfl⟩
theorem vk_InvalidSettings {P : Program} {w : World} {K : PySem.W.Frag} {mg : Str → Option Value} {base : Heap} {c : Cls} (T : Txt K mg c) : XV "ValueError" "ValueError.__new__" "ValueError.__init__" [.type "ValueError", .type "Exception", .type "BaseException", .type "object"] P w K mg base "InvalidSettings" c.InvalidSettings 0 ["self", "index"] ["index"] (fun us ws => us ++ (ws.drop 1 ++ ws.take 1)) (spIV c.InvalidSettings ["index"]) := by
  obtain ⟨fI, fd, h1, h2, F⟩ := T.in_InvalidSettings
  have B_LastheldError := T.xb_LastheldError
  have FO : FnOk P w K mg base CX0 1 fI fd ["self", "index"] (spIV c.InvalidSettings ["index"]) := F.ok sc_InvalidSettings___init__ (fun vs H Q E h => by obtain ⟨a, ws, rfl, l, _⟩ := h; rw [List.length_cons, l]; rfl) (fun cdv A outer s H vs Q E hr h => ⟨_, (pss_cons (ps_expr (pe_biB (B := "ValueError") (newId := "ValueError.__new__") (initId := "ValueError.__init__") (bt := [.type "ValueError", .type "Exception", .type "BaseException", .type "object"]) B_LastheldError (by rfl) (pa_cons (pv 0) (pa_cons pe_str pa_nil))))
    (pss_one (ps_ostB (B := "ValueError") (newId := "ValueError.__new__") (initId := "ValueError.__init__") (bt := [.type "ValueError", .type "Exception", .type "BaseException", .type "object"]) (pv 0) (pv 1)))), rd_initV1 (z := "the value is not a list of settings") T.xc_InvalidSettings.ox T.nf_InvalidSettings_index h⟩)
  exact ⟨T.xc_InvalidSettings.g, T.xc_InvalidSettings.ox, fI, fd, (fun us ws => us ++ (ws.drop 1 ++ ws.take 1)), h1, h2, FO, fun_kbn F (fun _ _ _ _ _ _ us ws h1 h2 => match us, ws, h1, h2 with | [_], [_], _, _ => rfl) rot_rel⟩
theorem v_InvalidPairs {P : Program} {w : World} {K : PySem.W.Frag} {mg : Str → Option Value} {base : Heap} {c : Cls} (T : Txt K mg c) : XV "ValueError" "ValueError.__new__" "ValueError.__init__" [.type "ValueError", .type "Exception", .type "BaseException", .type "object"] P w K mg base "InvalidPairs" c.InvalidPairs 1 ["self", "index"] [] (fun vs _ => vs) (spIV c.InvalidPairs ["index"]) := by
  obtain ⟨fI, fd, h1, h2, F⟩ := T.in_InvalidPairs
  have B_LastheldError := T.xb_LastheldError
  have FO : FnOk P w K mg base CX0 1 fI fd ["self", "index"] (spIV c.InvalidPairs ["index"]) := F.ok sc_InvalidPairs___init__ (fun vs H Q E h => by obtain ⟨a, ws, rfl, l, _⟩ := h; rw [List.length_cons, l]; rfl) (fun cdv A outer s H vs Q E hr h => ⟨_, (pss_cons (ps_expr (pe_biB (B := "ValueError") (newId := "ValueError.__new__") (initId := "ValueError.__init__") (bt := [.type "ValueError", .type "Exception", .type "BaseException", .type "object"]) B_LastheldError (by rfl) (pa_cons (pv 0) (pa_cons pe_str pa_nil))))
    (pss_one (ps_ostB (B := "ValueError") (newId := "ValueError.__new__") (initId := "ValueError.__init__") (bt := [.type "ValueError", .type "Exception", .type "BaseException", .type "object"]) (pv 0) (pv 1)))), rd_initV1 (z := "an argument is not a pair of a field and a number") T.xc_InvalidPairs.ox T.nf_InvalidPairs_index h⟩)
  exact ⟨T.xc_InvalidPairs.g, T.xc_InvalidPairs.ox, fI, fd, _, h1, h2, FO, KBn.pos (F.binds fun _ _ _ _ _ _ us hl => match us, hl with | [_, _], _ => rfl) rfl⟩
theorem vk_InvalidPairs {P : Program} {w : World} {K : PySem.W.Frag} {mg : Str → Option Value} {base : Heap} {c : Cls} (T : Txt K mg c) : XV "ValueError" "ValueError.__new__" "ValueError.__init__" [.type "ValueError", .type "Exception", .type "BaseException", .type "object"] P w K mg base "InvalidPairs" c.InvalidPairs 0 ["self", "index"] ["index"] (fun us ws => us ++ (ws.drop 1 ++ ws.take 1)) (spIV c.InvalidPairs ["index"]) := by
  obtain ⟨fI, fd, h1, h2, F⟩ := T.in_InvalidPairs
  have B_LastheldError := T.xb_LastheldError
  have FO : FnOk P w K mg base CX0 1 fI fd ["self", "index"] (spIV c.InvalidPairs ["index"]) := F.ok sc_InvalidPairs___init__ (fun vs H Q E h => by obtain ⟨a, ws, rfl, l, _⟩ := h; rw [List.length_cons, l]; rfl) (fun cdv A outer s H vs Q E hr h => ⟨_, (pss_cons (ps_expr (pe_biB (B := "ValueError") (newId := "ValueError.__new__") (initId := "ValueError.__init__") (bt := [.type "ValueError", .type "Exception", .type "BaseException", .type "object"]) B_LastheldError (by rfl) (pa_cons (pv 0) (pa_cons pe_str pa_nil))))
    (pss_one (ps_ostB (B := "ValueError") (newId := "ValueError.__new__") (initId := "ValueError.__init__") (bt := [.type "ValueError", .type "Exception", .type "BaseException", .type "object"]) (pv 0) (pv 1)))), rd_initV1 (z := "an argument is not a pair of a field and a number") T.xc_InvalidPairs.ox T.nf_InvalidPairs_index h⟩)
  exact ⟨T.xc_InvalidPairs.g, T.xc_InvalidPairs.ox, fI, fd, (fun us ws => us ++ (ws.drop 1 ++ ws.take 1)), h1, h2, FO, fun_kbn F (fun _ _ _ _ _ _ us ws h1 h2 => match us, ws, h1, h2 with | [_], [_], _, _ => rfl) rot_rel⟩
theorem v_InvalidWishes {P : Program} {w : World} {K : PySem.W.Frag} {mg : Str → Option Value} {base : Heap} {c : Cls} (T : Txt K mg c) : XV "ValueError" "ValueError.__new__" "ValueError.__init__" [.type "ValueError", .type "Exception", .type "BaseException", .type "object"] P w K mg base "InvalidWishes" c.InvalidWishes 1 ["self", "index"] [] (fun vs _ => vs) (spIV c.InvalidWishes ["index"]) := by
  obtain ⟨fI, fd, h1, h2, F⟩ := T.in_InvalidWishes
  have B_LastheldError := T.xb_LastheldError
  have FO : FnOk P w K mg base CX0 1 fI fd ["self", "index"] (spIV c.InvalidWishes ["index"]) := F.ok sc_InvalidWishes___init__ (fun vs H Q E h => by obtain ⟨a, ws, rfl, l, _⟩ := h; rw [List.length_cons, l]; rfl) (fun cdv A outer s H vs Q E hr h => ⟨_, (pss_cons (ps_expr (pe_biB (B := "ValueError") (newId := "ValueError.__new__") (initId := "ValueError.__init__") (bt := [.type "ValueError", .type "Exception", .type "BaseException", .type "object"]) B_LastheldError (by rfl) (pa_cons (pv 0) (pa_cons pe_str pa_nil))))
    (pss_one (ps_ostB (B := "ValueError") (newId := "ValueError.__new__") (initId := "ValueError.__init__") (bt := [.type "ValueError", .type "Exception", .type "BaseException", .type "object"]) (pv 0) (pv 1)))), rd_initV1 (z := "the value is not a list of wishes") T.xc_InvalidWishes.ox T.nf_InvalidWishes_index h⟩)
  exact ⟨T.xc_InvalidWishes.g, T.xc_InvalidWishes.ox, fI, fd, _, h1, h2, FO, KBn.pos (F.binds fun _ _ _ _ _ _ us hl => match us, hl with | [_, _], _ => rfl) rfl⟩
theorem vk_InvalidWishes {P : Program} {w : World} {K : PySem.W.Frag} {mg : Str → Option Value} {base : Heap} {c : Cls} (T : Txt K mg c) : XV "ValueError" "ValueError.__new__" "ValueError.__init__" [.type "ValueError", .type "Exception", .type "BaseException", .type "object"] P w K mg base "InvalidWishes" c.InvalidWishes 0 ["self", "index"] ["index"] (fun us ws => us ++ (ws.drop 1 ++ ws.take 1)) (spIV c.InvalidWishes ["index"]) := by
  obtain ⟨fI, fd, h1, h2, F⟩ := T.in_InvalidWishes
  have B_LastheldError := T.xb_LastheldError
  have FO : FnOk P w K mg base CX0 1 fI fd ["self", "index"] (spIV c.InvalidWishes ["index"]) := F.ok sc_InvalidWishes___init__ (fun vs H Q E h => by obtain ⟨a, ws, rfl, l, _⟩ := h; rw [List.length_cons, l]; rfl) (fun cdv A outer s H vs Q E hr h => ⟨_, (pss_cons (ps_expr (pe_biB (B := "ValueError") (newId := "ValueError.__new__") (initId := "ValueError.__init__") (bt := [.type "ValueError", .type "Exception", .type "BaseException", .type "object"]) B_LastheldError (by rfl) (pa_cons (pv 0) (pa_cons pe_str pa_nil))))
    (pss_one (ps_ostB (B := "ValueError") (newId := "ValueError.__new__") (initId := "ValueError.__init__") (bt := [.type "ValueError", .type "Exception", .type "BaseException", .type "object"]) (pv 0) (pv 1)))), rd_initV1 (z := "the value is not a list of wishes") T.xc_InvalidWishes.ox T.nf_InvalidWishes_index h⟩)
  exact ⟨T.xc_InvalidWishes.g, T.xc_InvalidWishes.ox, fI, fd, (fun us ws => us ++ (ws.drop 1 ++ ws.take 1)), h1, h2, FO, fun_kbn F (fun _ _ _ _ _ _ us ws h1 h2 => match us, ws, h1, h2 with | [_], [_], _, _ => rfl) rot_rel⟩
theorem v_InvalidNames {P : Program} {w : World} {K : PySem.W.Frag} {mg : Str → Option Value} {base : Heap} {c : Cls} (T : Txt K mg c) : XV "ValueError" "ValueError.__new__" "ValueError.__init__" [.type "ValueError", .type "Exception", .type "BaseException", .type "object"] P w K mg base "InvalidNames" c.InvalidNames 1 ["self", "index"] [] (fun vs _ => vs) (spIV c.InvalidNames ["index"]) := by
  obtain ⟨fI, fd, h1, h2, F⟩ := T.in_InvalidNames
  have B_LastheldError := T.xb_LastheldError
  have FO : FnOk P w K mg base CX0 1 fI fd ["self", "index"] (spIV c.InvalidNames ["index"]) := F.ok sc_InvalidNames___init__ (fun vs H Q E h => by obtain ⟨a, ws, rfl, l, _⟩ := h; rw [List.length_cons, l]; rfl) (fun cdv A outer s H vs Q E hr h => ⟨_, (pss_cons (ps_expr (pe_biB (B := "ValueError") (newId := "ValueError.__new__") (initId := "ValueError.__init__") (bt := [.type "ValueError", .type "Exception", .type "BaseException", .type "object"]) B_LastheldError (by rfl) (pa_cons (pv 0) (pa_cons pe_str pa_nil))))
    (pss_one (ps_ostB (B := "ValueError") (newId := "ValueError.__new__") (initId := "ValueError.__init__") (bt := [.type "ValueError", .type "Exception", .type "BaseException", .type "object"]) (pv 0) (pv 1)))), rd_initV1 (z := "the value is not a list of names") T.xc_InvalidNames.ox T.nf_InvalidNames_index h⟩)
  exact ⟨T.xc_InvalidNames.g, T.xc_InvalidNames.ox, fI, fd, _, h1, h2, FO, KBn.pos (F.binds fun _ _ _ _ _ _ us hl => match us, hl with | [_, _], _ => rfl) rfl⟩
theorem vk_InvalidNames {P : Program} {w : World} {K : PySem.W.Frag} {mg : Str → Option Value} {base : Heap} {c : Cls} (T : Txt K mg c) : XV "ValueError" "ValueError.__new__" "ValueError.__init__" [.type "ValueError", .type "Exception", .type "BaseException", .type "object"] P w K mg base "InvalidNames" c.InvalidNames 0 ["self", "index"] ["index"] (fun us ws => us ++ (ws.drop 1 ++ ws.take 1)) (spIV c.InvalidNames ["index"]) := by
  obtain ⟨fI, fd, h1, h2, F⟩ := T.in_InvalidNames
  have B_LastheldError := T.xb_LastheldError
  have FO : FnOk P w K mg base CX0 1 fI fd ["self", "index"] (spIV c.InvalidNames ["index"]) := F.ok sc_InvalidNames___init__ (fun vs H Q E h => by obtain ⟨a, ws, rfl, l, _⟩ := h; rw [List.length_cons, l]; rfl) (fun cdv A outer s H vs Q E hr h => ⟨_, (pss_cons (ps_expr (pe_biB (B := "ValueError") (newId := "ValueError.__new__") (initId := "ValueError.__init__") (bt := [.type "ValueError", .type "Exception", .type "BaseException", .type "object"]) B_LastheldError (by rfl) (pa_cons (pv 0) (pa_cons pe_str pa_nil))))
    (pss_one (ps_ostB (B := "ValueError") (newId := "ValueError.__new__") (initId := "ValueError.__init__") (bt := [.type "ValueError", .type "Exception", .type "BaseException", .type "object"]) (pv 0) (pv 1)))), rd_initV1 (z := "the value is not a list of names") T.xc_InvalidNames.ox T.nf_InvalidNames_index h⟩)
  exact ⟨T.xc_InvalidNames.g, T.xc_InvalidNames.ox, fI, fd, (fun us ws => us ++ (ws.drop 1 ++ ws.take 1)), h1, h2, FO, fun_kbn F (fun _ _ _ _ _ _ us ws h1 h2 => match us, ws, h1, h2 with | [_], [_], _, _ => rfl) rot_rel⟩
theorem v_InvalidText {P : Program} {w : World} {K : PySem.W.Frag} {mg : Str → Option Value} {base : Heap} {c : Cls} (T : Txt K mg c) : XV "ValueError" "ValueError.__new__" "ValueError.__init__" [.type "ValueError", .type "Exception", .type "BaseException", .type "object"] P w K mg base "InvalidText" c.InvalidText 1 ["self", "line"] [] (fun vs _ => vs) (spIV c.InvalidText ["line"]) := by
  obtain ⟨fI, fd, h1, h2, F⟩ := T.in_InvalidText
  have B_LastheldError := T.xb_LastheldError
  have FO : FnOk P w K mg base CX0 1 fI fd ["self", "line"] (spIV c.InvalidText ["line"]) := F.ok sc_InvalidText___init__ (fun vs H Q E h => by obtain ⟨a, ws, rfl, l, _⟩ := h; rw [List.length_cons, l]; rfl) (fun cdv A outer s H vs Q E hr h => ⟨_, (pss_cons (ps_expr (pe_biB (B := "ValueError") (newId := "ValueError.__new__") (initId := "ValueError.__init__") (bt := [.type "ValueError", .type "Exception", .type "BaseException", .type "object"]) B_LastheldError (by rfl) (pa_cons (pv 0) (pa_cons pe_str pa_nil))))
    (pss_one (ps_ostB (B := "ValueError") (newId := "ValueError.__new__") (initId := "ValueError.__init__") (bt := [.type "ValueError", .type "Exception", .type "BaseException", .type "object"]) (pv 0) (pv 1)))), rd_initV1 (z := "the value is not a text that can be read") T.xc_InvalidText.ox T.nf_InvalidText_line h⟩)
  exact ⟨T.xc_InvalidText.g, T.xc_InvalidText.ox, fI, fd, _, h1, h2, FO, KBn.pos (F.binds fun _ _ _ _ _ _ us hl => match us, hl with | [_, _], _ => rfl) rfl⟩
theorem vk_InvalidText {P : Program} {w : World} {K : PySem.W.Frag} {mg : Str → Option Value} {base : Heap} {c : Cls} (T : Txt K mg c) : XV "ValueError" "ValueError.__new__" "ValueError.__init__" [.type "ValueError", .type "Exception", .type "BaseException", .type "object"] P w K mg base "InvalidText" c.InvalidText 0 ["self", "line"] ["line"] (fun us ws => us ++ (ws.drop 1 ++ ws.take 1)) (spIV c.InvalidText ["line"]) := by
  obtain ⟨fI, fd, h1, h2, F⟩ := T.in_InvalidText
  have B_LastheldError := T.xb_LastheldError
  have FO : FnOk P w K mg base CX0 1 fI fd ["self", "line"] (spIV c.InvalidText ["line"]) := F.ok sc_InvalidText___init__ (fun vs H Q E h => by obtain ⟨a, ws, rfl, l, _⟩ := h; rw [List.length_cons, l]; rfl) (fun cdv A outer s H vs Q E hr h => ⟨_, (pss_cons (ps_expr (pe_biB (B := "ValueError") (newId := "ValueError.__new__") (initId := "ValueError.__init__") (bt := [.type "ValueError", .type "Exception", .type "BaseException", .type "object"]) B_LastheldError (by rfl) (pa_cons (pv 0) (pa_cons pe_str pa_nil))))
    (pss_one (ps_ostB (B := "ValueError") (newId := "ValueError.__new__") (initId := "ValueError.__init__") (bt := [.type "ValueError", .type "Exception", .type "BaseException", .type "object"]) (pv 0) (pv 1)))), rd_initV1 (z := "the value is not a text that can be read") T.xc_InvalidText.ox T.nf_InvalidText_line h⟩)
  exact ⟨T.xc_InvalidText.g, T.xc_InvalidText.ox, fI, fd, (fun us ws => us ++ (ws.drop 1 ++ ws.take 1)), h1, h2, FO, fun_kbn F (fun _ _ _ _ _ _ us ws h1 h2 => match us, ws, h1, h2 with | [_], [_], _, _ => rfl) rot_rel⟩
theorem v_InvalidCommand {P : Program} {w : World} {K : PySem.W.Frag} {mg : Str → Option Value} {base : Heap} {c : Cls} (T : Txt K mg c) : XV "ValueError" "ValueError.__new__" "ValueError.__init__" [.type "ValueError", .type "Exception", .type "BaseException", .type "object"] P w K mg base "InvalidCommand" c.InvalidCommand 1 ["self", "command"] [] (fun vs _ => vs) (spIV c.InvalidCommand ["command"]) := by
  obtain ⟨fI, fd, h1, h2, F⟩ := T.in_InvalidCommand
  have B_LastheldError := T.xb_LastheldError
  have FO : FnOk P w K mg base CX0 1 fI fd ["self", "command"] (spIV c.InvalidCommand ["command"]) := F.ok sc_InvalidCommand___init__ (fun vs H Q E h => by obtain ⟨a, ws, rfl, l, _⟩ := h; rw [List.length_cons, l]; rfl) (fun cdv A outer s H vs Q E hr h => ⟨_, (pss_cons (ps_expr (pe_biB (B := "ValueError") (newId := "ValueError.__new__") (initId := "ValueError.__init__") (bt := [.type "ValueError", .type "Exception", .type "BaseException", .type "object"]) B_LastheldError (by rfl) (pa_cons (pv 0) (pa_cons pe_str pa_nil))))
    (pss_one (ps_ostB (B := "ValueError") (newId := "ValueError.__new__") (initId := "ValueError.__init__") (bt := [.type "ValueError", .type "Exception", .type "BaseException", .type "object"]) (pv 0) (pv 1)))), rd_initV1 (z := "the value is not a command") T.xc_InvalidCommand.ox T.nf_InvalidCommand_command h⟩)
  exact ⟨T.xc_InvalidCommand.g, T.xc_InvalidCommand.ox, fI, fd, _, h1, h2, FO, KBn.pos (F.binds fun _ _ _ _ _ _ us hl => match us, hl with | [_, _], _ => rfl) rfl⟩
theorem vk_InvalidCommand {P : Program} {w : World} {K : PySem.W.Frag} {mg : Str → Option Value} {base : Heap} {c : Cls} (T : Txt K mg c) : XV "ValueError" "ValueError.__new__" "ValueError.__init__" [.type "ValueError", .type "Exception", .type "BaseException", .type "object"] P w K mg base "InvalidCommand" c.InvalidCommand 0 ["self", "command"] ["command"] (fun us ws => us ++ (ws.drop 1 ++ ws.take 1)) (spIV c.InvalidCommand ["command"]) := by
  obtain ⟨fI, fd, h1, h2, F⟩ := T.in_InvalidCommand
  have B_LastheldError := T.xb_LastheldError
  have FO : FnOk P w K mg base CX0 1 fI fd ["self", "command"] (spIV c.InvalidCommand ["command"]) := F.ok sc_InvalidCommand___init__ (fun vs H Q E h => by obtain ⟨a, ws, rfl, l, _⟩ := h; rw [List.length_cons, l]; rfl) (fun cdv A outer s H vs Q E hr h => ⟨_, (pss_cons (ps_expr (pe_biB (B := "ValueError") (newId := "ValueError.__new__") (initId := "ValueError.__init__") (bt := [.type "ValueError", .type "Exception", .type "BaseException", .type "object"]) B_LastheldError (by rfl) (pa_cons (pv 0) (pa_cons pe_str pa_nil))))
    (pss_one (ps_ostB (B := "ValueError") (newId := "ValueError.__new__") (initId := "ValueError.__init__") (bt := [.type "ValueError", .type "Exception", .type "BaseException", .type "object"]) (pv 0) (pv 1)))), rd_initV1 (z := "the value is not a command") T.xc_InvalidCommand.ox T.nf_InvalidCommand_command h⟩)
  exact ⟨T.xc_InvalidCommand.g, T.xc_InvalidCommand.ox, fI, fd, (fun us ws => us ++ (ws.drop 1 ++ ws.take 1)), h1, h2, FO, fun_kbn F (fun _ _ _ _ _ _ us ws h1 h2 => match us, ws, h1, h2 with | [_], [_], _, _ => rfl) rot_rel⟩
theorem v_UnknownField {P : Program} {w : World} {K : PySem.W.Frag} {mg : Str → Option Value} {base : Heap} {c : Cls} (T : Txt K mg c) : XV "LookupError" "LookupError.__new__" "LookupError.__init__" [.type "LookupError", .type "Exception", .type "BaseException", .type "object"] P w K mg base "UnknownField" c.UnknownField 1 ["self", "value"] [] (fun vs _ => vs) (spIV c.UnknownField ["value"]) := by
  obtain ⟨fI, fd, h1, h2, F⟩ := T.in_UnknownField
  have B_MissingError := T.xb_MissingError
  have FO : FnOk P w K mg base CX0 1 fI fd ["self", "value"] (spIV c.UnknownField ["value"]) := F.ok sc_UnknownField___init__ (fun vs H Q E h => by obtain ⟨a, ws, rfl, l, _⟩ := h; rw [List.length_cons, l]; rfl) (fun cdv A outer s H vs Q E hr h => ⟨_, (pss_cons (ps_expr (pe_biB (B := "LookupError") (newId := "LookupError.__new__") (initId := "LookupError.__init__") (bt := [.type "LookupError", .type "Exception", .type "BaseException", .type "object"]) B_MissingError (by rfl) (pa_cons (pv 0) (pa_cons pe_str pa_nil))))
    (pss_one (ps_ostB (B := "LookupError") (newId := "LookupError.__new__") (initId := "LookupError.__init__") (bt := [.type "LookupError", .type "Exception", .type "BaseException", .type "object"]) (pv 0) (pv 1)))), rd_initV1 (z := "the value is not a field") T.xc_UnknownField.ox T.nf_UnknownField_value h⟩)
  exact ⟨T.xc_UnknownField.g, T.xc_UnknownField.ox, fI, fd, _, h1, h2, FO, KBn.pos (F.binds fun _ _ _ _ _ _ us hl => match us, hl with | [_, _], _ => rfl) rfl⟩
theorem vk_UnknownField {P : Program} {w : World} {K : PySem.W.Frag} {mg : Str → Option Value} {base : Heap} {c : Cls} (T : Txt K mg c) : XV "LookupError" "LookupError.__new__" "LookupError.__init__" [.type "LookupError", .type "Exception", .type "BaseException", .type "object"] P w K mg base "UnknownField" c.UnknownField 0 ["self", "value"] ["value"] (fun us ws => us ++ (ws.drop 1 ++ ws.take 1)) (spIV c.UnknownField ["value"]) := by
  obtain ⟨fI, fd, h1, h2, F⟩ := T.in_UnknownField
  have B_MissingError := T.xb_MissingError
  have FO : FnOk P w K mg base CX0 1 fI fd ["self", "value"] (spIV c.UnknownField ["value"]) := F.ok sc_UnknownField___init__ (fun vs H Q E h => by obtain ⟨a, ws, rfl, l, _⟩ := h; rw [List.length_cons, l]; rfl) (fun cdv A outer s H vs Q E hr h => ⟨_, (pss_cons (ps_expr (pe_biB (B := "LookupError") (newId := "LookupError.__new__") (initId := "LookupError.__init__") (bt := [.type "LookupError", .type "Exception", .type "BaseException", .type "object"]) B_MissingError (by rfl) (pa_cons (pv 0) (pa_cons pe_str pa_nil))))
    (pss_one (ps_ostB (B := "LookupError") (newId := "LookupError.__new__") (initId := "LookupError.__init__") (bt := [.type "LookupError", .type "Exception", .type "BaseException", .type "object"]) (pv 0) (pv 1)))), rd_initV1 (z := "the value is not a field") T.xc_UnknownField.ox T.nf_UnknownField_value h⟩)
  exact ⟨T.xc_UnknownField.g, T.xc_UnknownField.ox, fI, fd, (fun us ws => us ++ (ws.drop 1 ++ ws.take 1)), h1, h2, FO, fun_kbn F (fun _ _ _ _ _ _ us ws h1 h2 => match us, ws, h1, h2 with | [_], [_], _, _ => rfl) rot_rel⟩
theorem v_UnknownReplica {P : Program} {w : World} {K : PySem.W.Frag} {mg : Str → Option Value} {base : Heap} {c : Cls} (T : Txt K mg c) : XV "LookupError" "LookupError.__new__" "LookupError.__init__" [.type "LookupError", .type "Exception", .type "BaseException", .type "object"] P w K mg base "UnknownReplica" c.UnknownReplica 1 ["self", "value"] [] (fun vs _ => vs) (spIV c.UnknownReplica ["value"]) := by
  obtain ⟨fI, fd, h1, h2, F⟩ := T.in_UnknownReplica
  have B_MissingError := T.xb_MissingError
  have FO : FnOk P w K mg base CX0 1 fI fd ["self", "value"] (spIV c.UnknownReplica ["value"]) := F.ok sc_UnknownReplica___init__ (fun vs H Q E h => by obtain ⟨a, ws, rfl, l, _⟩ := h; rw [List.length_cons, l]; rfl) (fun cdv A outer s H vs Q E hr h => ⟨_, (pss_cons (ps_expr (pe_biB (B := "LookupError") (newId := "LookupError.__new__") (initId := "LookupError.__init__") (bt := [.type "LookupError", .type "Exception", .type "BaseException", .type "object"]) B_MissingError (by rfl) (pa_cons (pv 0) (pa_cons pe_str pa_nil))))
    (pss_one (ps_ostB (B := "LookupError") (newId := "LookupError.__new__") (initId := "LookupError.__init__") (bt := [.type "LookupError", .type "Exception", .type "BaseException", .type "object"]) (pv 0) (pv 1)))), rd_initV1 (z := "the value is not the name of a replica") T.xc_UnknownReplica.ox T.nf_UnknownReplica_value h⟩)
  exact ⟨T.xc_UnknownReplica.g, T.xc_UnknownReplica.ox, fI, fd, _, h1, h2, FO, KBn.pos (F.binds fun _ _ _ _ _ _ us hl => match us, hl with | [_, _], _ => rfl) rfl⟩
theorem vk_UnknownReplica {P : Program} {w : World} {K : PySem.W.Frag} {mg : Str → Option Value} {base : Heap} {c : Cls} (T : Txt K mg c) : XV "LookupError" "LookupError.__new__" "LookupError.__init__" [.type "LookupError", .type "Exception", .type "BaseException", .type "object"] P w K mg base "UnknownReplica" c.UnknownReplica 0 ["self", "value"] ["value"] (fun us ws => us ++ (ws.drop 1 ++ ws.take 1)) (spIV c.UnknownReplica ["value"]) := by
  obtain ⟨fI, fd, h1, h2, F⟩ := T.in_UnknownReplica
  have B_MissingError := T.xb_MissingError
  have FO : FnOk P w K mg base CX0 1 fI fd ["self", "value"] (spIV c.UnknownReplica ["value"]) := F.ok sc_UnknownReplica___init__ (fun vs H Q E h => by obtain ⟨a, ws, rfl, l, _⟩ := h; rw [List.length_cons, l]; rfl) (fun cdv A outer s H vs Q E hr h => ⟨_, (pss_cons (ps_expr (pe_biB (B := "LookupError") (newId := "LookupError.__new__") (initId := "LookupError.__init__") (bt := [.type "LookupError", .type "Exception", .type "BaseException", .type "object"]) B_MissingError (by rfl) (pa_cons (pv 0) (pa_cons pe_str pa_nil))))
    (pss_one (ps_ostB (B := "LookupError") (newId := "LookupError.__new__") (initId := "LookupError.__init__") (bt := [.type "LookupError", .type "Exception", .type "BaseException", .type "object"]) (pv 0) (pv 1)))), rd_initV1 (z := "the value is not the name of a replica") T.xc_UnknownReplica.ox T.nf_UnknownReplica_value h⟩)
  exact ⟨T.xc_UnknownReplica.g, T.xc_UnknownReplica.ox, fI, fd, (fun us ws => us ++ (ws.drop 1 ++ ws.take 1)), h1, h2, FO, fun_kbn F (fun _ _ _ _ _ _ us ws h1 h2 => match us, ws, h1, h2 with | [_], [_], _, _ => rfl) rot_rel⟩
theorem v_UnknownMessage {P : Program} {w : World} {K : PySem.W.Frag} {mg : Str → Option Value} {base : Heap} {c : Cls} (T : Txt K mg c) : XV "LookupError" "LookupError.__new__" "LookupError.__init__" [.type "LookupError", .type "Exception", .type "BaseException", .type "object"] P w K mg base "UnknownMessage" c.UnknownMessage 1 ["self", "value"] [] (fun vs _ => vs) (spIV c.UnknownMessage ["value"]) := by
  obtain ⟨fI, fd, h1, h2, F⟩ := T.in_UnknownMessage
  have B_MissingError := T.xb_MissingError
  have FO : FnOk P w K mg base CX0 1 fI fd ["self", "value"] (spIV c.UnknownMessage ["value"]) := F.ok sc_UnknownMessage___init__ (fun vs H Q E h => by obtain ⟨a, ws, rfl, l, _⟩ := h; rw [List.length_cons, l]; rfl) (fun cdv A outer s H vs Q E hr h => ⟨_, (pss_cons (ps_expr (pe_biB (B := "LookupError") (newId := "LookupError.__new__") (initId := "LookupError.__init__") (bt := [.type "LookupError", .type "Exception", .type "BaseException", .type "object"]) B_MissingError (by rfl) (pa_cons (pv 0) (pa_cons pe_str pa_nil))))
    (pss_one (ps_ostB (B := "LookupError") (newId := "LookupError.__new__") (initId := "LookupError.__init__") (bt := [.type "LookupError", .type "Exception", .type "BaseException", .type "object"]) (pv 0) (pv 1)))), rd_initV1 (z := "the value is not the number of a message") T.xc_UnknownMessage.ox T.nf_UnknownMessage_value h⟩)
  exact ⟨T.xc_UnknownMessage.g, T.xc_UnknownMessage.ox, fI, fd, _, h1, h2, FO, KBn.pos (F.binds fun _ _ _ _ _ _ us hl => match us, hl with | [_, _], _ => rfl) rfl⟩
theorem vk_UnknownMessage {P : Program} {w : World} {K : PySem.W.Frag} {mg : Str → Option Value} {base : Heap} {c : Cls} (T : Txt K mg c) : XV "LookupError" "LookupError.__new__" "LookupError.__init__" [.type "LookupError", .type "Exception", .type "BaseException", .type "object"] P w K mg base "UnknownMessage" c.UnknownMessage 0 ["self", "value"] ["value"] (fun us ws => us ++ (ws.drop 1 ++ ws.take 1)) (spIV c.UnknownMessage ["value"]) := by
  obtain ⟨fI, fd, h1, h2, F⟩ := T.in_UnknownMessage
  have B_MissingError := T.xb_MissingError
  have FO : FnOk P w K mg base CX0 1 fI fd ["self", "value"] (spIV c.UnknownMessage ["value"]) := F.ok sc_UnknownMessage___init__ (fun vs H Q E h => by obtain ⟨a, ws, rfl, l, _⟩ := h; rw [List.length_cons, l]; rfl) (fun cdv A outer s H vs Q E hr h => ⟨_, (pss_cons (ps_expr (pe_biB (B := "LookupError") (newId := "LookupError.__new__") (initId := "LookupError.__init__") (bt := [.type "LookupError", .type "Exception", .type "BaseException", .type "object"]) B_MissingError (by rfl) (pa_cons (pv 0) (pa_cons pe_str pa_nil))))
    (pss_one (ps_ostB (B := "LookupError") (newId := "LookupError.__new__") (initId := "LookupError.__init__") (bt := [.type "LookupError", .type "Exception", .type "BaseException", .type "object"]) (pv 0) (pv 1)))), rd_initV1 (z := "the value is not the number of a message") T.xc_UnknownMessage.ox T.nf_UnknownMessage_value h⟩)
  exact ⟨T.xc_UnknownMessage.g, T.xc_UnknownMessage.ox, fI, fd, (fun us ws => us ++ (ws.drop 1 ++ ws.take 1)), h1, h2, FO, fun_kbn F (fun _ _ _ _ _ _ us ws h1 h2 => match us, ws, h1, h2 with | [_], [_], _, _ => rfl) rot_rel⟩
theorem v_NotFree {P : Program} {w : World} {K : PySem.W.Frag} {mg : Str → Option Value} {base : Heap} {c : Cls} (T : Txt K mg c) : XV "RuntimeError" "RuntimeError.__new__" "RuntimeError.__init__" [.type "RuntimeError", .type "Exception", .type "BaseException", .type "object"] P w K mg base "NotFree" c.NotFree 1 ["self", "given"] [] (fun vs _ => vs) (spIV c.NotFree ["given"]) := by
  obtain ⟨fI, fd, h1, h2, F⟩ := T.in_NotFree
  have B_StateError := T.xb_StateError
  have FO : FnOk P w K mg base CX0 1 fI fd ["self", "given"] (spIV c.NotFree ["given"]) := F.ok sc_NotFree___init__ (fun vs H Q E h => by obtain ⟨a, ws, rfl, l, _⟩ := h; rw [List.length_cons, l]; rfl) (fun cdv A outer s H vs Q E hr h => ⟨_, (pss_cons (ps_expr (pe_biB (B := "RuntimeError") (newId := "RuntimeError.__new__") (initId := "RuntimeError.__init__") (bt := [.type "RuntimeError", .type "Exception", .type "BaseException", .type "object"]) B_StateError (by rfl) (pa_cons (pv 0) (pa_cons pe_str pa_nil))))
    (pss_one (ps_ostB (B := "RuntimeError") (newId := "RuntimeError.__new__") (initId := "RuntimeError.__init__") (bt := [.type "RuntimeError", .type "Exception", .type "BaseException", .type "object"]) (pv 0) (pv 1)))), rd_initV1 (z := "the fields are not free together") T.xc_NotFree.ox T.nf_NotFree_given h⟩)
  exact ⟨T.xc_NotFree.g, T.xc_NotFree.ox, fI, fd, _, h1, h2, FO, KBn.pos (F.binds fun _ _ _ _ _ _ us hl => match us, hl with | [_, _], _ => rfl) rfl⟩
theorem vk_NotFree {P : Program} {w : World} {K : PySem.W.Frag} {mg : Str → Option Value} {base : Heap} {c : Cls} (T : Txt K mg c) : XV "RuntimeError" "RuntimeError.__new__" "RuntimeError.__init__" [.type "RuntimeError", .type "Exception", .type "BaseException", .type "object"] P w K mg base "NotFree" c.NotFree 0 ["self", "given"] ["given"] (fun us ws => us ++ (ws.drop 1 ++ ws.take 1)) (spIV c.NotFree ["given"]) := by
  obtain ⟨fI, fd, h1, h2, F⟩ := T.in_NotFree
  have B_StateError := T.xb_StateError
  have FO : FnOk P w K mg base CX0 1 fI fd ["self", "given"] (spIV c.NotFree ["given"]) := F.ok sc_NotFree___init__ (fun vs H Q E h => by obtain ⟨a, ws, rfl, l, _⟩ := h; rw [List.length_cons, l]; rfl) (fun cdv A outer s H vs Q E hr h => ⟨_, (pss_cons (ps_expr (pe_biB (B := "RuntimeError") (newId := "RuntimeError.__new__") (initId := "RuntimeError.__init__") (bt := [.type "RuntimeError", .type "Exception", .type "BaseException", .type "object"]) B_StateError (by rfl) (pa_cons (pv 0) (pa_cons pe_str pa_nil))))
    (pss_one (ps_ostB (B := "RuntimeError") (newId := "RuntimeError.__new__") (initId := "RuntimeError.__init__") (bt := [.type "RuntimeError", .type "Exception", .type "BaseException", .type "object"]) (pv 0) (pv 1)))), rd_initV1 (z := "the fields are not free together") T.xc_NotFree.ox T.nf_NotFree_given h⟩)
  exact ⟨T.xc_NotFree.g, T.xc_NotFree.ox, fI, fd, (fun us ws => us ++ (ws.drop 1 ++ ws.take 1)), h1, h2, FO, fun_kbn F (fun _ _ _ _ _ _ us ws h1 h2 => match us, ws, h1, h2 with | [_], [_], _, _ => rfl) rot_rel⟩
theorem v_NotDetermined {P : Program} {w : World} {K : PySem.W.Frag} {mg : Str → Option Value} {base : Heap} {c : Cls} (T : Txt K mg c) : XV "RuntimeError" "RuntimeError.__new__" "RuntimeError.__init__" [.type "RuntimeError", .type "Exception", .type "BaseException", .type "object"] P w K mg base "NotDetermined" c.NotDetermined 1 ["self", "field"] [] (fun vs _ => vs) (spIV c.NotDetermined ["field"]) := by
  obtain ⟨fI, fd, h1, h2, F⟩ := T.in_NotDetermined
  have B_StateError := T.xb_StateError
  have FO : FnOk P w K mg base CX0 1 fI fd ["self", "field"] (spIV c.NotDetermined ["field"]) := F.ok sc_NotDetermined___init__ (fun vs H Q E h => by obtain ⟨a, ws, rfl, l, _⟩ := h; rw [List.length_cons, l]; rfl) (fun cdv A outer s H vs Q E hr h => ⟨_, (pss_cons (ps_expr (pe_biB (B := "RuntimeError") (newId := "RuntimeError.__new__") (initId := "RuntimeError.__init__") (bt := [.type "RuntimeError", .type "Exception", .type "BaseException", .type "object"]) B_StateError (by rfl) (pa_cons (pv 0) (pa_cons pe_str pa_nil))))
    (pss_one (ps_ostB (B := "RuntimeError") (newId := "RuntimeError.__new__") (initId := "RuntimeError.__init__") (bt := [.type "RuntimeError", .type "Exception", .type "BaseException", .type "object"]) (pv 0) (pv 1)))), rd_initV1 (z := "the field is not determined") T.xc_NotDetermined.ox T.nf_NotDetermined_field h⟩)
  exact ⟨T.xc_NotDetermined.g, T.xc_NotDetermined.ox, fI, fd, _, h1, h2, FO, KBn.pos (F.binds fun _ _ _ _ _ _ us hl => match us, hl with | [_, _], _ => rfl) rfl⟩
theorem vk_NotDetermined {P : Program} {w : World} {K : PySem.W.Frag} {mg : Str → Option Value} {base : Heap} {c : Cls} (T : Txt K mg c) : XV "RuntimeError" "RuntimeError.__new__" "RuntimeError.__init__" [.type "RuntimeError", .type "Exception", .type "BaseException", .type "object"] P w K mg base "NotDetermined" c.NotDetermined 0 ["self", "field"] ["field"] (fun us ws => us ++ (ws.drop 1 ++ ws.take 1)) (spIV c.NotDetermined ["field"]) := by
  obtain ⟨fI, fd, h1, h2, F⟩ := T.in_NotDetermined
  have B_StateError := T.xb_StateError
  have FO : FnOk P w K mg base CX0 1 fI fd ["self", "field"] (spIV c.NotDetermined ["field"]) := F.ok sc_NotDetermined___init__ (fun vs H Q E h => by obtain ⟨a, ws, rfl, l, _⟩ := h; rw [List.length_cons, l]; rfl) (fun cdv A outer s H vs Q E hr h => ⟨_, (pss_cons (ps_expr (pe_biB (B := "RuntimeError") (newId := "RuntimeError.__new__") (initId := "RuntimeError.__init__") (bt := [.type "RuntimeError", .type "Exception", .type "BaseException", .type "object"]) B_StateError (by rfl) (pa_cons (pv 0) (pa_cons pe_str pa_nil))))
    (pss_one (ps_ostB (B := "RuntimeError") (newId := "RuntimeError.__new__") (initId := "RuntimeError.__init__") (bt := [.type "RuntimeError", .type "Exception", .type "BaseException", .type "object"]) (pv 0) (pv 1)))), rd_initV1 (z := "the field is not determined") T.xc_NotDetermined.ox T.nf_NotDetermined_field h⟩)
  exact ⟨T.xc_NotDetermined.g, T.xc_NotDetermined.ox, fI, fd, (fun us ws => us ++ (ws.drop 1 ++ ws.take 1)), h1, h2, FO, fun_kbn F (fun _ _ _ _ _ _ us ws h1 h2 => match us, ws, h1, h2 with | [_], [_], _, _ => rfl) rot_rel⟩
theorem v_OtherSheet {P : Program} {w : World} {K : PySem.W.Frag} {mg : Str → Option Value} {base : Heap} {c : Cls} (T : Txt K mg c) : XV "RuntimeError" "RuntimeError.__new__" "RuntimeError.__init__" [.type "RuntimeError", .type "Exception", .type "BaseException", .type "object"] P w K mg base "OtherSheet" c.OtherSheet 1 ["self", "index"] [] (fun vs _ => vs) (spIV c.OtherSheet ["index"]) := by
  obtain ⟨fI, fd, h1, h2, F⟩ := T.in_OtherSheet
  have B_StateError := T.xb_StateError
  have FO : FnOk P w K mg base CX0 1 fI fd ["self", "index"] (spIV c.OtherSheet ["index"]) := F.ok sc_OtherSheet___init__ (fun vs H Q E h => by obtain ⟨a, ws, rfl, l, _⟩ := h; rw [List.length_cons, l]; rfl) (fun cdv A outer s H vs Q E hr h => ⟨_, (pss_cons (ps_expr (pe_biB (B := "RuntimeError") (newId := "RuntimeError.__new__") (initId := "RuntimeError.__init__") (bt := [.type "RuntimeError", .type "Exception", .type "BaseException", .type "object"]) B_StateError (by rfl) (pa_cons (pv 0) (pa_cons pe_str pa_nil))))
    (pss_one (ps_ostB (B := "RuntimeError") (newId := "RuntimeError.__new__") (initId := "RuntimeError.__init__") (bt := [.type "RuntimeError", .type "Exception", .type "BaseException", .type "object"]) (pv 0) (pv 1)))), rd_initV1 (z := "an argument has another sheet") T.xc_OtherSheet.ox T.nf_OtherSheet_index h⟩)
  exact ⟨T.xc_OtherSheet.g, T.xc_OtherSheet.ox, fI, fd, _, h1, h2, FO, KBn.pos (F.binds fun _ _ _ _ _ _ us hl => match us, hl with | [_, _], _ => rfl) rfl⟩
theorem vk_OtherSheet {P : Program} {w : World} {K : PySem.W.Frag} {mg : Str → Option Value} {base : Heap} {c : Cls} (T : Txt K mg c) : XV "RuntimeError" "RuntimeError.__new__" "RuntimeError.__init__" [.type "RuntimeError", .type "Exception", .type "BaseException", .type "object"] P w K mg base "OtherSheet" c.OtherSheet 0 ["self", "index"] ["index"] (fun us ws => us ++ (ws.drop 1 ++ ws.take 1)) (spIV c.OtherSheet ["index"]) := by
  obtain ⟨fI, fd, h1, h2, F⟩ := T.in_OtherSheet
  have B_StateError := T.xb_StateError
  have FO : FnOk P w K mg base CX0 1 fI fd ["self", "index"] (spIV c.OtherSheet ["index"]) := F.ok sc_OtherSheet___init__ (fun vs H Q E h => by obtain ⟨a, ws, rfl, l, _⟩ := h; rw [List.length_cons, l]; rfl) (fun cdv A outer s H vs Q E hr h => ⟨_, (pss_cons (ps_expr (pe_biB (B := "RuntimeError") (newId := "RuntimeError.__new__") (initId := "RuntimeError.__init__") (bt := [.type "RuntimeError", .type "Exception", .type "BaseException", .type "object"]) B_StateError (by rfl) (pa_cons (pv 0) (pa_cons pe_str pa_nil))))
    (pss_one (ps_ostB (B := "RuntimeError") (newId := "RuntimeError.__new__") (initId := "RuntimeError.__init__") (bt := [.type "RuntimeError", .type "Exception", .type "BaseException", .type "object"]) (pv 0) (pv 1)))), rd_initV1 (z := "an argument has another sheet") T.xc_OtherSheet.ox T.nf_OtherSheet_index h⟩)
  exact ⟨T.xc_OtherSheet.g, T.xc_OtherSheet.ox, fI, fd, (fun us ws => us ++ (ws.drop 1 ++ ws.take 1)), h1, h2, FO, fun_kbn F (fun _ _ _ _ _ _ us ws h1 h2 => match us, ws, h1, h2 with | [_], [_], _, _ => rfl) rot_rel⟩
theorem v_Refused {P : Program} {w : World} {K : PySem.W.Frag} {mg : Str → Option Value} {base : Heap} {c : Cls} (T : Txt K mg c) : XV "RuntimeError" "RuntimeError.__new__" "RuntimeError.__init__" [.type "RuntimeError", .type "Exception", .type "BaseException", .type "object"] P w K mg base "Refused" c.Refused 3 ["self", "field", "level", "cause"] [] (fun vs _ => vs) (spIV c.Refused ["field", "level", "cause"]) := by
  obtain ⟨fI, fd, h1, h2, F⟩ := T.in_Refused
  have B_StateError := T.xb_StateError
  have FO : FnOk P w K mg base CX0 1 fI fd ["self", "field", "level", "cause"] (spIV c.Refused ["field", "level", "cause"]) := F.ok sc_Refused___init__ (fun vs H Q E h => by obtain ⟨a, ws, rfl, l, _⟩ := h; rw [List.length_cons, l]; rfl) (fun cdv A outer s H vs Q E hr h => ⟨_, (pss_cons (ps_expr (pe_biB (B := "RuntimeError") (newId := "RuntimeError.__new__") (initId := "RuntimeError.__init__") (bt := [.type "RuntimeError", .type "Exception", .type "BaseException", .type "object"]) B_StateError (by rfl) (pa_cons (pv 0) (pa_cons pe_str pa_nil))))
    (pss_cons (ps_ostB (B := "RuntimeError") (newId := "RuntimeError.__new__") (initId := "RuntimeError.__init__") (bt := [.type "RuntimeError", .type "Exception", .type "BaseException", .type "object"]) (pv 0) (pv 1))
    (pss_cons (ps_ostB (B := "RuntimeError") (newId := "RuntimeError.__new__") (initId := "RuntimeError.__init__") (bt := [.type "RuntimeError", .type "Exception", .type "BaseException", .type "object"]) (pv 0) (pv 2))
    (pss_one (ps_ostB (B := "RuntimeError") (newId := "RuntimeError.__new__") (initId := "RuntimeError.__init__") (bt := [.type "RuntimeError", .type "Exception", .type "BaseException", .type "object"]) (pv 0) (pv 3)))))), rd_initV3 (z := "the setting does not hold") T.xc_Refused.ox T.nf_Refused_field T.nf_Refused_level T.nf_Refused_cause h⟩)
  exact ⟨T.xc_Refused.g, T.xc_Refused.ox, fI, fd, _, h1, h2, FO, KBn.pos (F.binds fun _ _ _ _ _ _ us hl => match us, hl with | [_, _, _, _], _ => rfl) rfl⟩
theorem vk_Refused {P : Program} {w : World} {K : PySem.W.Frag} {mg : Str → Option Value} {base : Heap} {c : Cls} (T : Txt K mg c) : XV "RuntimeError" "RuntimeError.__new__" "RuntimeError.__init__" [.type "RuntimeError", .type "Exception", .type "BaseException", .type "object"] P w K mg base "Refused" c.Refused 0 ["self", "field", "level", "cause"] ["cause", "field", "level"] (fun us ws => us ++ (ws.drop 1 ++ ws.take 1)) (spIV c.Refused ["field", "level", "cause"]) := by
  obtain ⟨fI, fd, h1, h2, F⟩ := T.in_Refused
  have B_StateError := T.xb_StateError
  have FO : FnOk P w K mg base CX0 1 fI fd ["self", "field", "level", "cause"] (spIV c.Refused ["field", "level", "cause"]) := F.ok sc_Refused___init__ (fun vs H Q E h => by obtain ⟨a, ws, rfl, l, _⟩ := h; rw [List.length_cons, l]; rfl) (fun cdv A outer s H vs Q E hr h => ⟨_, (pss_cons (ps_expr (pe_biB (B := "RuntimeError") (newId := "RuntimeError.__new__") (initId := "RuntimeError.__init__") (bt := [.type "RuntimeError", .type "Exception", .type "BaseException", .type "object"]) B_StateError (by rfl) (pa_cons (pv 0) (pa_cons pe_str pa_nil))))
    (pss_cons (ps_ostB (B := "RuntimeError") (newId := "RuntimeError.__new__") (initId := "RuntimeError.__init__") (bt := [.type "RuntimeError", .type "Exception", .type "BaseException", .type "object"]) (pv 0) (pv 1))
    (pss_cons (ps_ostB (B := "RuntimeError") (newId := "RuntimeError.__new__") (initId := "RuntimeError.__init__") (bt := [.type "RuntimeError", .type "Exception", .type "BaseException", .type "object"]) (pv 0) (pv 2))
    (pss_one (ps_ostB (B := "RuntimeError") (newId := "RuntimeError.__new__") (initId := "RuntimeError.__init__") (bt := [.type "RuntimeError", .type "Exception", .type "BaseException", .type "object"]) (pv 0) (pv 3)))))), rd_initV3 (z := "the setting does not hold") T.xc_Refused.ox T.nf_Refused_field T.nf_Refused_level T.nf_Refused_cause h⟩)
  exact ⟨T.xc_Refused.g, T.xc_Refused.ox, fI, fd, (fun us ws => us ++ (ws.drop 1 ++ ws.take 1)), h1, h2, FO, fun_kbn F (fun _ _ _ _ _ _ us ws h1 h2 => match us, ws, h1, h2 with | [_], [_, _, _], _, _ => rfl) rot_rel⟩
theorem v_Impossible {P : Program} {w : World} {K : PySem.W.Frag} {mg : Str → Option Value} {base : Heap} {c : Cls} (T : Txt K mg c) : XV "RuntimeError" "RuntimeError.__new__" "RuntimeError.__init__" [.type "RuntimeError", .type "Exception", .type "BaseException", .type "object"] P w K mg base "Impossible" c.Impossible 1 ["self", "conflict"] [] (fun vs _ => vs) (spIV c.Impossible ["conflict"]) := by
  obtain ⟨fI, fd, h1, h2, F⟩ := T.in_Impossible
  have B_StateError := T.xb_StateError
  have FO : FnOk P w K mg base CX0 1 fI fd ["self", "conflict"] (spIV c.Impossible ["conflict"]) := F.ok sc_Impossible___init__ (fun vs H Q E h => by obtain ⟨a, ws, rfl, l, _⟩ := h; rw [List.length_cons, l]; rfl) (fun cdv A outer s H vs Q E hr h => ⟨_, (pss_cons (ps_expr (pe_biB (B := "RuntimeError") (newId := "RuntimeError.__new__") (initId := "RuntimeError.__init__") (bt := [.type "RuntimeError", .type "Exception", .type "BaseException", .type "object"]) B_StateError (by rfl) (pa_cons (pv 0) (pa_cons pe_str pa_nil))))
    (pss_one (ps_ostB (B := "RuntimeError") (newId := "RuntimeError.__new__") (initId := "RuntimeError.__init__") (bt := [.type "RuntimeError", .type "Exception", .type "BaseException", .type "object"]) (pv 0) (pv 1)))), rd_initV1 (z := "the wishes cannot be met") T.xc_Impossible.ox T.nf_Impossible_conflict h⟩)
  exact ⟨T.xc_Impossible.g, T.xc_Impossible.ox, fI, fd, _, h1, h2, FO, KBn.pos (F.binds fun _ _ _ _ _ _ us hl => match us, hl with | [_, _], _ => rfl) rfl⟩
theorem vk_Impossible {P : Program} {w : World} {K : PySem.W.Frag} {mg : Str → Option Value} {base : Heap} {c : Cls} (T : Txt K mg c) : XV "RuntimeError" "RuntimeError.__new__" "RuntimeError.__init__" [.type "RuntimeError", .type "Exception", .type "BaseException", .type "object"] P w K mg base "Impossible" c.Impossible 0 ["self", "conflict"] ["conflict"] (fun us ws => us ++ (ws.drop 1 ++ ws.take 1)) (spIV c.Impossible ["conflict"]) := by
  obtain ⟨fI, fd, h1, h2, F⟩ := T.in_Impossible
  have B_StateError := T.xb_StateError
  have FO : FnOk P w K mg base CX0 1 fI fd ["self", "conflict"] (spIV c.Impossible ["conflict"]) := F.ok sc_Impossible___init__ (fun vs H Q E h => by obtain ⟨a, ws, rfl, l, _⟩ := h; rw [List.length_cons, l]; rfl) (fun cdv A outer s H vs Q E hr h => ⟨_, (pss_cons (ps_expr (pe_biB (B := "RuntimeError") (newId := "RuntimeError.__new__") (initId := "RuntimeError.__init__") (bt := [.type "RuntimeError", .type "Exception", .type "BaseException", .type "object"]) B_StateError (by rfl) (pa_cons (pv 0) (pa_cons pe_str pa_nil))))
    (pss_one (ps_ostB (B := "RuntimeError") (newId := "RuntimeError.__new__") (initId := "RuntimeError.__init__") (bt := [.type "RuntimeError", .type "Exception", .type "BaseException", .type "object"]) (pv 0) (pv 1)))), rd_initV1 (z := "the wishes cannot be met") T.xc_Impossible.ox T.nf_Impossible_conflict h⟩)
  exact ⟨T.xc_Impossible.g, T.xc_Impossible.ox, fI, fd, (fun us ws => us ++ (ws.drop 1 ++ ws.take 1)), h1, h2, FO, fun_kbn F (fun _ _ _ _ _ _ us ws h1 h2 => match us, ws, h1, h2 with | [_], [_], _, _ => rfl) rot_rel⟩
theorem v_RunFailed {P : Program} {w : World} {K : PySem.W.Frag} {mg : Str → Option Value} {base : Heap} {c : Cls} (T : Txt K mg c) : XV "RuntimeError" "RuntimeError.__new__" "RuntimeError.__init__" [.type "RuntimeError", .type "Exception", .type "BaseException", .type "object"] P w K mg base "RunFailed" c.RunFailed 2 ["self", "position", "results"] [] (fun vs _ => vs) (spIV c.RunFailed ["position", "results"]) := by
  obtain ⟨fI, fd, h1, h2, F⟩ := T.in_RunFailed
  have B_StateError := T.xb_StateError
  have FO : FnOk P w K mg base CX0 1 fI fd ["self", "position", "results"] (spIV c.RunFailed ["position", "results"]) := F.ok sc_RunFailed___init__ (fun vs H Q E h => by obtain ⟨a, ws, rfl, l, _⟩ := h; rw [List.length_cons, l]; rfl) (fun cdv A outer s H vs Q E hr h => ⟨_, (pss_cons (ps_expr (pe_biB (B := "RuntimeError") (newId := "RuntimeError.__new__") (initId := "RuntimeError.__init__") (bt := [.type "RuntimeError", .type "Exception", .type "BaseException", .type "object"]) B_StateError (by rfl) (pa_cons (pv 0) (pa_cons pe_str pa_nil))))
    (pss_cons (ps_ostB (B := "RuntimeError") (newId := "RuntimeError.__new__") (initId := "RuntimeError.__init__") (bt := [.type "RuntimeError", .type "Exception", .type "BaseException", .type "object"]) (pv 0) (pv 1))
    (pss_one (ps_ostB (B := "RuntimeError") (newId := "RuntimeError.__new__") (initId := "RuntimeError.__init__") (bt := [.type "RuntimeError", .type "Exception", .type "BaseException", .type "object"]) (pv 0) (pv 2))))), rd_initV2 (z := "a command of the run raised an error") T.xc_RunFailed.ox T.nf_RunFailed_position T.nf_RunFailed_results h⟩)
  exact ⟨T.xc_RunFailed.g, T.xc_RunFailed.ox, fI, fd, _, h1, h2, FO, KBn.pos (F.binds fun _ _ _ _ _ _ us hl => match us, hl with | [_, _, _], _ => rfl) rfl⟩
theorem vk_RunFailed {P : Program} {w : World} {K : PySem.W.Frag} {mg : Str → Option Value} {base : Heap} {c : Cls} (T : Txt K mg c) : XV "RuntimeError" "RuntimeError.__new__" "RuntimeError.__init__" [.type "RuntimeError", .type "Exception", .type "BaseException", .type "object"] P w K mg base "RunFailed" c.RunFailed 0 ["self", "position", "results"] ["results", "position"] (fun us ws => us ++ (ws.drop 1 ++ ws.take 1)) (spIV c.RunFailed ["position", "results"]) := by
  obtain ⟨fI, fd, h1, h2, F⟩ := T.in_RunFailed
  have B_StateError := T.xb_StateError
  have FO : FnOk P w K mg base CX0 1 fI fd ["self", "position", "results"] (spIV c.RunFailed ["position", "results"]) := F.ok sc_RunFailed___init__ (fun vs H Q E h => by obtain ⟨a, ws, rfl, l, _⟩ := h; rw [List.length_cons, l]; rfl) (fun cdv A outer s H vs Q E hr h => ⟨_, (pss_cons (ps_expr (pe_biB (B := "RuntimeError") (newId := "RuntimeError.__new__") (initId := "RuntimeError.__init__") (bt := [.type "RuntimeError", .type "Exception", .type "BaseException", .type "object"]) B_StateError (by rfl) (pa_cons (pv 0) (pa_cons pe_str pa_nil))))
    (pss_cons (ps_ostB (B := "RuntimeError") (newId := "RuntimeError.__new__") (initId := "RuntimeError.__init__") (bt := [.type "RuntimeError", .type "Exception", .type "BaseException", .type "object"]) (pv 0) (pv 1))
    (pss_one (ps_ostB (B := "RuntimeError") (newId := "RuntimeError.__new__") (initId := "RuntimeError.__init__") (bt := [.type "RuntimeError", .type "Exception", .type "BaseException", .type "object"]) (pv 0) (pv 2))))), rd_initV2 (z := "a command of the run raised an error") T.xc_RunFailed.ox T.nf_RunFailed_position T.nf_RunFailed_results h⟩)
  exact ⟨T.xc_RunFailed.g, T.xc_RunFailed.ox, fI, fd, (fun us ws => us ++ (ws.drop 1 ++ ws.take 1)), h1, h2, FO, fun_kbn F (fun _ _ _ _ _ _ us ws h1 h2 => match us, ws, h1, h2 with | [_], [_, _], _, _ => rfl) rot_rel⟩
theorem v_TooMany {P : Program} {w : World} {K : PySem.W.Frag} {mg : Str → Option Value} {base : Heap} {c : Cls} (T : Txt K mg c) : XV "ArithmeticError" "ArithmeticError.__new__" "ArithmeticError.__init__" [.type "ArithmeticError", .type "Exception", .type "BaseException", .type "object"] P w K mg base "TooMany" c.TooMany 2 ["self", "kind", "limit"] [] (fun vs _ => vs) (spIV c.TooMany ["kind", "limit"]) := by
  obtain ⟨fI, fd, h1, h2, F⟩ := T.in_TooMany
  have B_LimitError := T.xb_LimitError
  have FO : FnOk P w K mg base CX0 1 fI fd ["self", "kind", "limit"] (spIV c.TooMany ["kind", "limit"]) := F.ok sc_TooMany___init__ (fun vs H Q E h => by obtain ⟨a, ws, rfl, l, _⟩ := h; rw [List.length_cons, l]; rfl) (fun cdv A outer s H vs Q E hr h => ⟨_, (pss_cons (ps_expr (pe_biB (B := "ArithmeticError") (newId := "ArithmeticError.__new__") (initId := "ArithmeticError.__init__") (bt := [.type "ArithmeticError", .type "Exception", .type "BaseException", .type "object"]) B_LimitError (by rfl) (pa_cons (pv 0) (pa_cons pe_str pa_nil))))
    (pss_cons (ps_ostB (B := "ArithmeticError") (newId := "ArithmeticError.__new__") (initId := "ArithmeticError.__init__") (bt := [.type "ArithmeticError", .type "Exception", .type "BaseException", .type "object"]) (pv 0) (pv 1))
    (pss_one (ps_ostB (B := "ArithmeticError") (newId := "ArithmeticError.__new__") (initId := "ArithmeticError.__init__") (bt := [.type "ArithmeticError", .type "Exception", .type "BaseException", .type "object"]) (pv 0) (pv 2))))), rd_initV2 (z := "there are more than a limit") T.xc_TooMany.ox T.nf_TooMany_kind T.nf_TooMany_limit h⟩)
  exact ⟨T.xc_TooMany.g, T.xc_TooMany.ox, fI, fd, _, h1, h2, FO, KBn.pos (F.binds fun _ _ _ _ _ _ us hl => match us, hl with | [_, _, _], _ => rfl) rfl⟩
theorem vk_TooMany {P : Program} {w : World} {K : PySem.W.Frag} {mg : Str → Option Value} {base : Heap} {c : Cls} (T : Txt K mg c) : XV "ArithmeticError" "ArithmeticError.__new__" "ArithmeticError.__init__" [.type "ArithmeticError", .type "Exception", .type "BaseException", .type "object"] P w K mg base "TooMany" c.TooMany 0 ["self", "kind", "limit"] ["limit", "kind"] (fun us ws => us ++ (ws.drop 1 ++ ws.take 1)) (spIV c.TooMany ["kind", "limit"]) := by
  obtain ⟨fI, fd, h1, h2, F⟩ := T.in_TooMany
  have B_LimitError := T.xb_LimitError
  have FO : FnOk P w K mg base CX0 1 fI fd ["self", "kind", "limit"] (spIV c.TooMany ["kind", "limit"]) := F.ok sc_TooMany___init__ (fun vs H Q E h => by obtain ⟨a, ws, rfl, l, _⟩ := h; rw [List.length_cons, l]; rfl) (fun cdv A outer s H vs Q E hr h => ⟨_, (pss_cons (ps_expr (pe_biB (B := "ArithmeticError") (newId := "ArithmeticError.__new__") (initId := "ArithmeticError.__init__") (bt := [.type "ArithmeticError", .type "Exception", .type "BaseException", .type "object"]) B_LimitError (by rfl) (pa_cons (pv 0) (pa_cons pe_str pa_nil))))
    (pss_cons (ps_ostB (B := "ArithmeticError") (newId := "ArithmeticError.__new__") (initId := "ArithmeticError.__init__") (bt := [.type "ArithmeticError", .type "Exception", .type "BaseException", .type "object"]) (pv 0) (pv 1))
    (pss_one (ps_ostB (B := "ArithmeticError") (newId := "ArithmeticError.__new__") (initId := "ArithmeticError.__init__") (bt := [.type "ArithmeticError", .type "Exception", .type "BaseException", .type "object"]) (pv 0) (pv 2))))), rd_initV2 (z := "there are more than a limit") T.xc_TooMany.ox T.nf_TooMany_kind T.nf_TooMany_limit h⟩)
  exact ⟨T.xc_TooMany.g, T.xc_TooMany.ox, fI, fd, (fun us ws => us ++ (ws.drop 1 ++ ws.take 1)), h1, h2, FO, fun_kbn F (fun _ _ _ _ _ _ us ws h1 h2 => match us, ws, h1, h2 with | [_], [_, _], _, _ => rfl) rot_rel⟩
theorem v_NoQuotient {P : Program} {w : World} {K : PySem.W.Frag} {mg : Str → Option Value} {base : Heap} {c : Cls} (T : Txt K mg c) : XV "ArithmeticError" "ArithmeticError.__new__" "ArithmeticError.__init__" [.type "ArithmeticError", .type "Exception", .type "BaseException", .type "object"] P w K mg base "NoQuotient" c.NoQuotient 1 ["self", "value"] [] (fun vs _ => vs) (spIV c.NoQuotient ["value"]) := by
  obtain ⟨fI, fd, h1, h2, F⟩ := T.in_NoQuotient
  have B_LimitError := T.xb_LimitError
  have FO : FnOk P w K mg base CX0 1 fI fd ["self", "value"] (spIV c.NoQuotient ["value"]) := F.ok sc_NoQuotient___init__ (fun vs H Q E h => by obtain ⟨a, ws, rfl, l, _⟩ := h; rw [List.length_cons, l]; rfl) (fun cdv A outer s H vs Q E hr h => ⟨_, (pss_cons (ps_expr (pe_biB (B := "ArithmeticError") (newId := "ArithmeticError.__new__") (initId := "ArithmeticError.__init__") (bt := [.type "ArithmeticError", .type "Exception", .type "BaseException", .type "object"]) B_LimitError (by rfl) (pa_cons (pv 0) (pa_cons pe_str pa_nil))))
    (pss_one (ps_ostB (B := "ArithmeticError") (newId := "ArithmeticError.__new__") (initId := "ArithmeticError.__init__") (bt := [.type "ArithmeticError", .type "Exception", .type "BaseException", .type "object"]) (pv 0) (pv 1)))), rd_initV1 (z := "the divisor is 0") T.xc_NoQuotient.ox T.nf_NoQuotient_value h⟩)
  exact ⟨T.xc_NoQuotient.g, T.xc_NoQuotient.ox, fI, fd, _, h1, h2, FO, KBn.pos (F.binds fun _ _ _ _ _ _ us hl => match us, hl with | [_, _], _ => rfl) rfl⟩
theorem vk_NoQuotient {P : Program} {w : World} {K : PySem.W.Frag} {mg : Str → Option Value} {base : Heap} {c : Cls} (T : Txt K mg c) : XV "ArithmeticError" "ArithmeticError.__new__" "ArithmeticError.__init__" [.type "ArithmeticError", .type "Exception", .type "BaseException", .type "object"] P w K mg base "NoQuotient" c.NoQuotient 0 ["self", "value"] ["value"] (fun us ws => us ++ (ws.drop 1 ++ ws.take 1)) (spIV c.NoQuotient ["value"]) := by
  obtain ⟨fI, fd, h1, h2, F⟩ := T.in_NoQuotient
  have B_LimitError := T.xb_LimitError
  have FO : FnOk P w K mg base CX0 1 fI fd ["self", "value"] (spIV c.NoQuotient ["value"]) := F.ok sc_NoQuotient___init__ (fun vs H Q E h => by obtain ⟨a, ws, rfl, l, _⟩ := h; rw [List.length_cons, l]; rfl) (fun cdv A outer s H vs Q E hr h => ⟨_, (pss_cons (ps_expr (pe_biB (B := "ArithmeticError") (newId := "ArithmeticError.__new__") (initId := "ArithmeticError.__init__") (bt := [.type "ArithmeticError", .type "Exception", .type "BaseException", .type "object"]) B_LimitError (by rfl) (pa_cons (pv 0) (pa_cons pe_str pa_nil))))
    (pss_one (ps_ostB (B := "ArithmeticError") (newId := "ArithmeticError.__new__") (initId := "ArithmeticError.__init__") (bt := [.type "ArithmeticError", .type "Exception", .type "BaseException", .type "object"]) (pv 0) (pv 1)))), rd_initV1 (z := "the divisor is 0") T.xc_NoQuotient.ox T.nf_NoQuotient_value h⟩)
  exact ⟨T.xc_NoQuotient.g, T.xc_NoQuotient.ox, fI, fd, (fun us ws => us ++ (ws.drop 1 ++ ws.take 1)), h1, h2, FO, fun_kbn F (fun _ _ _ _ _ _ us ws h1 h2 => match us, ws, h1, h2 with | [_], [_], _, _ => rfl) rot_rel⟩
end K18
--EXV InvalidName InvalidNumber InvalidLevel InvalidClock InvalidCount InvalidFields InvalidEquation InvalidEquations InvalidSetting InvalidSettings InvalidPairs InvalidWishes InvalidNames InvalidText InvalidCommand UnknownField UnknownReplica UnknownMessage NotFree NotDetermined OtherSheet Refused Impossible RunFailed NothingToTakeBack TooMany NoQuotient LastheldError MissingError StateError LimitError
set_option Elab.async false
set_option linter.all false
set_option maxRecDepth 100000
set_option maxHeartbeats 1000000
set_option exponentiation.threshold 20000
namespace K18
open PySem PySem.Spec L2 LK
open PyProof.Rows hiding St
local macro_rules | `(tactic| walk_at "ext") => `(tactic| first | exact Ext.refl | assumption | (refine Ext.trans ?_ (by assumption); walk_at "ext"))
local macro_rules | `(tactic| walk_at "sm") => `(tactic| first | exact Same.refl _ | assumption | (refine Ext.off ?_ (Fr.mem (by assumption)); walk_at "ext"))
local macro_rules | `(tactic| walk_at "dm") => `(tactic| first | assumption | exact .int _ | exact .bl _ | exact .str _ | exact .non | (refine D.mono (by assumption) ?_; walk_at "sm"))
local macro_rules | `(tactic| walk_at "sd") => `(tactic| first | assumption | rfl | decide | omega | (show _ ≤ 1000; decide))
local macro_rules | `(tactic| walk_at "ea") => `(tactic| first | exact ea_nil | (refine ea_eq ?_ ?_; (walk_at "ev"); (walk_at "ea")))
local macro_rules | `(tactic| walk_at "et") => `(tactic| first
  | (refine et_valE ?_; walk_at "ev") | (refine et_testE ?_; walk_at "ev") | (refine et_notE ?_; walk_at "et")
  | (refine et_andE ?_ (fun _ => ?_); (walk_at "et"); (walk_at "et")) | (refine et_orE ?_ (fun _ => ?_); (walk_at "et"); (walk_at "et")))
local macro_rules | `(tactic| walk_at "ev") => `(tactic| first
  | exact ev_i | exact ev_s | exact ev_b | exact ev_n | exact ev_dnew
  | (refine ev_var rfl ?_; walk_at "dm")
  | (refine ev_tupE ?_ ?_; (walk_at "ea"); (walk_at "sd")) | (refine ev_lstE ?_ ?_; (walk_at "ea"); (walk_at "sd"))
  | (refine ev_negE ?_; walk_at "ev")
  | (refine ev_isiE ?_ ?_; (walk_at "ev"); (walk_at "sd"))
  | (refine ev_lenE ?_ ?_ ?_; (walk_at "ev"); (walk_at "sd"); (walk_at "sd"))
  | (refine ev_atL ?_ ?_ ?_; (walk_at "ev"); (walk_at "ev"); (walk_at "sd")) | (refine ev_atT ?_ ?_ ?_; (walk_at "ev"); (walk_at "ev"); (walk_at "sd"))
  | (refine ev_addE ?_ ?_; (walk_at "ev"); (walk_at "ev")) | (refine ev_cmpE ?_ ?_; (walk_at "ev"); (walk_at "ev")) | (refine ev_i0E ?_ ?_; (walk_at "ev"); (walk_at "ev"))
  | (refine ev_mulE ?_ ?_ ?_; (walk_at "ev"); (walk_at "ev"); (walk_at "sd"))
  | (refine ev_eqIE ?_ ?_; (walk_at "ev"); (walk_at "ev")) | (refine ev_neIE ?_ ?_; (walk_at "ev"); (walk_at "ev"))
  | (refine ev_andE ?_ (fun _ => ?_); (walk_at "ev"); (walk_at "ev")) | (refine ev_orE ?_ (fun _ => ?_); (walk_at "ev"); (walk_at "ev")) | (refine ev_notE ?_; walk_at "ev")
  | (refine ev_fn ?_ ?_; (walk_at "ea"); (walk_at "sd")))
local macro_rules | `(tactic| walk_at "lit") => `(tactic| first | exact ev_i | exact ev_s | exact ev_b | exact ev_n | exact ev_dnew | (refine ev_negE ?_; walk_at "lit") | (refine ev_tupE ?_ (by decide); walk_at "lits") | (refine ev_lstE ?_ (by decide); walk_at "lits") | (refine ev_powE ?_ ?_ ⟨by decide, by decide, by decide⟩ <;> walk_at "lit"))
local macro_rules | `(tactic| walk_at "lits") => `(tactic| first | exact ea_nil | (refine ea_eq ?_ ?_; (walk_at "lit"); (walk_at "lits")))
section
variable {P : Program} {w : World} {K : PySem.W.Frag} {mg : Str → Option Value} {c : Cls} {base : Heap} {a : Addr} {G : Hp} {S : List Addr} {H : Hp}
theorem ok_l_pot {f : Addr} {fd : FuncData} (F : Fun K "_law_pot" "_law_pot" s_l_pot f fd) (T : Txt K mg c) : FnG P w K mg base CX0 1 f fd ["_law_script", "_law_k"] (spPot K) := by
  refine fun_okG F sc_l_pot (fun vs H Q E h => ?_) (fun cdv A outer s H vs Q E hg hr h => ?_)
  · obtain ⟨s, ns, k, rfl, _⟩ := h
    rfl
  obtain ⟨s, ns, k, rfl, hs, hk, q⟩ := h
  refine ⟨_, (pss_cons (ps_set (i := 2) sc_l_pot.nd rfl (by first | exact Or.inl rfl | exact Or.inr rfl) (pe_ifExp (pt_cmpR op_lt (pv 1) (pe_callB (kLen (K := K)) (by rfl) T.b_len (by decide +kernel) (pa_cons (pv 0) pa_nil)) (nomark _)) (pe_ix (kIx (K := K)) (pv 0) (pv 1) (fun _ _ => rfl)) pe_int))
    (pss_one (ps_ret (pe_lst (pa_cons (pe_callB (call_max2 rfl) (by rfl) T.b_max (by decide +kernel) (pa_cons pe_int (pa_cons (pe_op op_sub (pe_callB call_abs (by rfl) T.b_abs (by decide +kernel) (pa_cons (pv 2) pa_nil)) (pe_op op_pow pe_int pe_int)) pa_nil))) (pa_cons (pe_op op_mod (pe_op (kAdd (K := K)) (pe_op (kAdd (K := K)) (pe_op oMul (pe_op op_mod (pe_callB call_abs (by rfl) T.b_abs (by decide +kernel) (pa_cons (pv 2) pa_nil)) pe_int) pe_int) (pe_op oMul pe_int (pv 1))) pe_int) pe_int) pa_nil)))))), ?_⟩
  -- behind the first row: some int
  have rest : ∀ z : Int, (tRet (tLst (tCons (tCB (fun xs H Q => ∃ i j, xs = [V.int i, V.int j] ∧ Q (V.int (if j > i then j else i)) H) (tCons (tC (.int 0)) (tCons (tOp (rI0 fun i j => .int (i - j)) (tCB (fun xs H Q => ∃ i, xs = [V.int i] ∧ Q (V.int (if i < 0 then -i else i)) H) (tCons (tVar 2) tNil)) (tOp (rI CPow fun i j => .int (i ^ j.toNat)) (tC (.int 10)) (tC (.int 18)))) tNil)))
      (tCons (tOp (rI (fun _ j => 0 < j) fun i j => .int (i % j)) (tOp (rAddA K) (tOp (rAddA K) (tOp rMulA (tOp (rI (fun _ j => 0 < j) fun i j => .int (i % j)) (tCB (fun xs H Q => ∃ i, xs = [V.int i] ∧ Q (V.int (if i < 0 then -i else i)) H) (tCons (tVar 2) tNil)) (tC (.int 2147483587))) (tC (.int 48271))) (tOp rMulA (tC (.int 60013)) (tVar 1))) (tC (.int 29))) (tC (.int 2147483647))) tNil))))
      { nx := fun _ H' => Q .non H', rt := Q } [some (.ref s), some (.int (k : Nat)), some (.int z)] H := by
    intro z
    refine ⟨.int z, rfl, z, rfl, 10, 18, rfl, rfl, ⟨by decide, by decide, by decide⟩, _, _, rfl, rfl, 0, _, rfl, ?_⟩
    refine ⟨.int z, rfl, z, rfl, _, 2147483587, rfl, rfl, (by show (0 : Int) < 2147483587; decide), .inl ⟨_, 48271, rfl, rfl, ?_, _, rfl, .inl ⟨60013, _, rfl, rfl, ?_, .inl ⟨_, _, rfl, rfl, .inl ⟨_, 29, rfl, rfl, _, 2147483647, rfl, rfl, (by show (0 : Int) < 2147483647; decide), ?_⟩⟩⟩⟩⟩
    · refine mulx_ok (a := 31) (b := 16) ?_ (by decide) (by decide)
      split <;> omega
    · refine mulx_ok (a := 16) (b := 16) (by decide) ?_ (by decide)
      omega
    · refine ⟨by show 2 ≤ sizeLine; decide, fun p hp => ?_⟩
      refine q p _ (same_new hp) hp ⟨_, _, upd_same, ?_, ?_, ?_⟩
      · split <;> omega
      · exact Int.emod_nonneg _ (by decide)
      · exact Int.lt_trans (Int.emod_lt_of_pos _ (by decide)) (by decide)
  refine ⟨.int (k : Nat), rfl, .ref s, rfl, .ref s, _, rfl, .inl ⟨_, hs, rfl⟩, _, _, rfl, rfl, _, rfl, ite2 (fun e => ?_) (fun e => ?_)⟩
  · have e' := of_decide_eq_true e
    rw [List.length_map] at e'
    have hk' : k < ns.length := by omega
    exact ⟨.ref s, rfl, .int (k : Nat), rfl, .inl ⟨s, _, (k : Nat), .int ns[k], rfl, rfl, hs, atI_nat (by rw [List.getElem?_map, List.getElem?_eq_getElem hk']; rfl), rest _⟩⟩
  · exact rest 0
theorem ok_l_draw {f : Addr} {fd : FuncData} (F : Fun K "_law_draw" "_law_draw" s_l_draw f fd) (T : Txt K mg c) : FnG P w K mg base CX0 1 f fd ["_law_pot_here", "_law_many"] (spP K preD postD) := by
  refine fun_okG F sc_l_draw (fun vs H Q E h => spP_len (n := 1) (fun ds ⟨m, e, _⟩ => by rw [e]; rfl) h) (fun cdv A outer s H vs Q E hg hr h => ?_)
  obtain ⟨a, S, ws, ds, rfl, f, m, ⟨n, rfl, n0, n1⟩, k⟩ := h
  obtain ⟨v, rfl, mv⟩ := DA.one m
  cases mv
  obtain ⟨p, q, hp, p0, q0, q1⟩ := f.pot
  have small : ∀ i : Int, CDivW i n := fun i => wide_div (b := 200) n0 (by omega) (by decide) (by decide)
  refine ⟨_, (pss_cons (ps_if (pt_cmpR op_gt (pe_ix (kIx (K := K)) (pv 0) pe_int (fun _ _ => rfl)) pe_int (nomark _))
    (pss_cons (ps_asg (pe_callB call_divmodX (by rfl) T.b_divmod (by decide +kernel) (pa_cons (pe_ix (kIx (K := K)) (pv 0) pe_int (fun _ _ => rfl)) (pa_cons (pv 1) pa_nil))) (pg_tupK (K := K) (n := 2) (by rfl) (by rfl) (pgs_cons (pg_sub (pv 0) pe_int set_list) (pgs_cons (pg_name (i := 2) sc_l_draw.nd rfl (by first | exact Or.inl rfl | exact Or.inr rfl)) pgs_nil))))
    (pss_one (ps_ret (pv 2))))
    pss_nil)
    (pss_cons (ps_asg (pe_op op_mod (pe_op (kAdd (K := K)) (pe_op oMul (pe_ix (kIx (K := K)) (pv 0) pe_int (fun _ _ => rfl)) pe_int) pe_int) pe_int) (pg_sub (pv 0) pe_int set_list))
    (pss_one (ps_ret (pe_op op_mod (pe_op op_fdivW (pe_op op_mod (pe_op oMul (pe_ix (kIx (K := K)) (pv 0) pe_int (fun _ _ => rfl)) (pe_ix (kIx (K := K)) (pv 0) pe_int (fun _ _ => rfl))) pe_int) pe_int) (pv 1)))))), ?_⟩
  refine ⟨.ref a, rfl, .inl ⟨a, _, 0, .int p, rfl, rfl, SqL.of hp, rfl, p, 0, rfl, rfl, _, rfl, ite2 (fun e => ?_) (fun e => ?_)⟩⟩
  · refine ⟨.ref a, rfl, .inl ⟨a, _, 0, .int p, rfl, rfl, SqL.of hp, rfl, .int n, rfl, p, n, rfl, small p, fun t ht => ?_⟩⟩
    have nat : a ≠ t := ne_of_none hp ht
    have hp2 : upd H t (.tup [.int (p / n), .int (p % n)]) a = some (.lst [.int p, .int q]) := by
      rw [upd_ne nat]
      exact hp
    refine ⟨t, _, rfl, SqT.of upd_same, rfl, _, _, rfl, ⟨.ref a, rfl, a, _, 0, 0, rfl, rfl, hp2, rfl, _, _, rfl, rfl, ?_⟩⟩
    refine ⟨.int (p % n), rfl, k _ (.int (p % n)) _ ⟨fun b o nb e => ?_, fun _ => ?_⟩ (.int _) ⟨n, _, rfl, rfl, Int.emod_nonneg _ (by omega), Int.emod_lt_of_pos _ n0⟩⟩
    · rw [upd_ne nb]
      exact same_new ht _ _ e
    · exact ⟨_, q, upd_same, Int.ediv_nonneg p0 (by omega), q0, q1⟩
  · refine ⟨.ref a, rfl, .inl ⟨a, _, 1, .int q, rfl, rfl, SqL.of hp, rfl, .inl ⟨q, 39373, rfl, rfl, mulx_ok (a := 31) (b := 16) (by omega) (by decide) (by decide), .inl ⟨_, 12227, rfl, rfl, _, 2147483629, rfl, rfl, (by show (0 : Int) < 2147483629; decide), ?_⟩⟩⟩⟩
    refine ⟨.ref a, rfl, a, _, 1, 1, rfl, rfl, hp, rfl, ?_⟩
    dsimp only
    have y0 : 0 ≤ (q * 39373 + 12227) % 2147483629 := Int.emod_nonneg _ (by decide)
    have y1 : (q * 39373 + 12227) % 2147483629 < 2147483629 := Int.emod_lt_of_pos _ (by decide)
    generalize (q * 39373 + 12227) % 2147483629 = y at y0 y1
    have hp2 : upd H a (.lst ([V.int p, .int q].set 1 (.int y))) a = some (.lst [.int p, .int y]) := upd_same
    refine ⟨.ref a, rfl, .inl ⟨a, _, 1, .int y, rfl, rfl, SqL.of hp2, rfl, .ref a, rfl, .inl ⟨a, _, 1, .int y, rfl, rfl, SqL.of hp2, rfl, ?_⟩⟩⟩
    refine .inl ⟨y, y, rfl, rfl, mulx_ok (a := 31) (b := 31) (by omega) (by omega) (by decide), _, 2147483563, rfl, rfl, (by show (0 : Int) < 2147483563; decide), _, 13, rfl, rfl, wide_div (b := 4) (by decide) (by decide) (by decide) (by decide), .int n, rfl, _, n, rfl, rfl, n0, ?_⟩
    refine k _ (.int _) _ ⟨fun b o nb e => ?_, fun _ => ?_⟩ (.int _) ⟨n, _, rfl, rfl, Int.emod_nonneg _ (by omega), Int.emod_lt_of_pos _ n0⟩
    · rw [upd_ne nb]
      exact e
    · exact ⟨p, y, hp2, p0, y0, by omega⟩
theorem ok_l_odd {f : Addr} {fd : FuncData} (F : Fun K "_law_odd" "_law_odd" s_l_odd f fd) (T : Txt K mg c) (F_l_draw : DfD P w K mg base) :
    FnG P w K mg base CX0 2 f fd ["_law_pot_here"] (spP K (fun ds => ds = []) (fun _ r => r ∈ odd29)) := by
  refine fun_okG F sc_l_odd (fun vs H Q E h => spP_len (n := 0) (fun ds e => by rw [e]; rfl) h) (fun cdv A outer s H vs Q E hg hr h => ?_)
  obtain ⟨a, S, ws, ds, rfl, f, m, rfl, k⟩ := h
  cases m
  refine ⟨_, (pss_cons (ps_set (i := 1) sc_l_odd.nd rfl (by first | exact Or.inl rfl | exact Or.inr rfl) (pe_lst (pa_cons pe_non (pa_cons pe_int (pa_cons pe_int (pa_cons pe_bl (pa_cons pe_bl (pa_cons pe_str (pa_cons pe_str (pa_cons pe_str (pa_cons (pe_tup pa_nil) (pa_cons (pe_lst pa_nil) (pa_cons pe_dnewK (pa_cons (pe_tup (pa_cons pe_int (pa_cons pe_int pa_nil))) (pa_cons (pe_tup (pa_cons pe_int (pa_cons pe_int pa_nil))) (pa_cons (pe_tup (pa_cons pe_int (pa_cons pe_int pa_nil))) (pa_cons (pe_tup (pa_cons pe_int (pa_cons pe_int pa_nil))) (pa_cons (pe_tup (pa_cons pe_int (pa_cons (pe_un un_neg pe_int) pa_nil))) pa_nil))))))))))))))))))
    (pss_cons (ps_set (i := 1) sc_l_odd.nd rfl (by first | exact Or.inl rfl | exact Or.inr rfl) (pe_op (kAdd (K := K)) (pv 1) (pe_lst (pa_cons (pe_tup (pa_cons pe_bl (pa_cons pe_int pa_nil))) (pa_cons (pe_lst (pa_cons pe_int (pa_cons pe_int pa_nil))) (pa_cons (pe_tup (pa_cons pe_int (pa_cons pe_int (pa_cons pe_int pa_nil)))) (pa_cons (pe_tup (pa_cons pe_str (pa_cons pe_int pa_nil))) (pa_cons (pe_tup (pa_cons pe_int (pa_cons pe_int pa_nil))) (pa_cons (pe_tup (pa_cons (pe_un un_neg pe_int) (pa_cons pe_int pa_nil))) (pa_cons (pe_un un_neg pe_int) (pa_cons pe_str (pa_cons pe_str (pa_cons pe_str (pa_cons pe_str (pa_cons (pe_tup (pa_cons pe_str pa_nil)) pa_nil)))))))))))))))
    (pss_one (ps_ret (pe_ix (kIx (K := K)) (pe_op (kAdd (K := K)) (pv 1) (pe_lst (pa_cons (pe_tup (pa_cons pe_int (pa_cons pe_bl pa_nil))) pa_nil))) (pe_fn F_l_draw hg (hr.mono (by decide)) (by rfl) pass0 (pa_cons (pv 0) (pa_cons pe_int pa_nil))) (fun _ _ => rfl)))))), ?_⟩
  refine q_set (K := K) (σ := [some (.ref a), none]) (C := (· = .list Odd29.oddA)) (by walk_at "lit") f (Same.refl _) ?_
  rintro v1 _ H1 x1 f1 m1 rfl
  refine q_set (σ := [some (.ref a), some v1]) (C := (· = .list (Odd29.oddA ++ Odd29.oddB))) (ev_catL (ds := Odd29.oddA) (es := Odd29.oddB) (ev_var rfl m1) ?_ (by decide)) f1 (Same.refl _) ?_
  · refine ev_lstE ?_ ?_
    · walk_at "lits"
    · decide
  rintro v2 _ H2 x2 f2 m2 rfl
  refine q_ret (σ := [some (.ref a), some v2]) (C := (· ∈ odd29)) (ev_pick (ds := odd29) (ev_catL (ds := Odd29.oddA ++ Odd29.oddB) (es := Odd29.oddC) (ev_var rfl m2) ?_ (by decide)) (ev_draw rfl ev_i (by decide) (by decide))) f2 (Same.refl _) ?_
  · refine ev_lstE ?_ ?_
    · walk_at "lits"
    · decide
  intro v3 d H3 x3 m3 hd
  exact k _ _ H3 ((x1.trans x2).trans x3) m3 hd
def CL (c : Cls) : List Addr := [c.InvalidName, c.InvalidNumber, c.InvalidLevel, c.InvalidClock, c.InvalidCount, c.InvalidFields, c.InvalidEquation, c.InvalidEquations, c.InvalidSetting, c.InvalidSettings, c.InvalidPairs, c.InvalidWishes, c.InvalidNames, c.InvalidText, c.InvalidCommand, c.UnknownField, c.UnknownReplica, c.UnknownMessage, c.NotFree, c.NotDetermined, c.OtherSheet, c.Refused, c.Impossible, c.RunFailed, c.NothingToTakeBack, c.TooMany, c.NoQuotient, c.LastheldError, c.MissingError, c.StateError, c.LimitError]
theorem ok_l_flags {f : Addr} {fd : FuncData} (F : Fun K "_law_flags" "_law_flags" s_l_flags f fd) (T : Txt K mg c) : FnG P w K mg base CX0 1 f fd ["_law_e"] (spFl K (CL c) flD) := by
  refine fun_okG F sc_l_flags (fun vs H Q E h => ?_) (fun cdv A outer s H vs Q E hg hr h => ?_)
  · obtain ⟨_, _, _, _, rfl, _⟩ := h
    rfl
  obtain ⟨a, S, x, n, rfl, f0, e0, k⟩ := h
  have hn := e0.lt
  have T0 : XAll K (CL c) := T.xall
  refine ⟨_, (pss_cons (ps_set (i := 1) sc_l_flags.nd rfl (by first | exact Or.inl rfl | exact Or.inr rfl) (pe_lst (pa_cons (pe_callB (kIsV (K := K)) (by rfl) T.b_isinstance (by decide +kernel) (pa_cons (pv 0) (pa_cons (pe_glob (v := .ref c.InvalidName) (by rfl) T.g_InvalidName rfl) pa_nil))) (pa_cons (pe_callB (kIsV (K := K)) (by rfl) T.b_isinstance (by decide +kernel) (pa_cons (pv 0) (pa_cons (pe_glob (v := .ref c.InvalidNumber) (by rfl) T.g_InvalidNumber rfl) pa_nil))) (pa_cons (pe_callB (kIsV (K := K)) (by rfl) T.b_isinstance (by decide +kernel) (pa_cons (pv 0) (pa_cons (pe_glob (v := .ref c.InvalidLevel) (by rfl) T.g_InvalidLevel rfl) pa_nil))) pa_nil)))))
    (pss_cons (ps_set (i := 1) sc_l_flags.nd rfl (by first | exact Or.inl rfl | exact Or.inr rfl) (pe_op (kAdd (K := K)) (pv 1) (pe_lst (pa_cons (pe_callB (kIsV (K := K)) (by rfl) T.b_isinstance (by decide +kernel) (pa_cons (pv 0) (pa_cons (pe_glob (v := .ref c.InvalidClock) (by rfl) T.g_InvalidClock rfl) pa_nil))) (pa_cons (pe_callB (kIsV (K := K)) (by rfl) T.b_isinstance (by decide +kernel) (pa_cons (pv 0) (pa_cons (pe_glob (v := .ref c.InvalidCount) (by rfl) T.g_InvalidCount rfl) pa_nil))) (pa_cons (pe_callB (kIsV (K := K)) (by rfl) T.b_isinstance (by decide +kernel) (pa_cons (pv 0) (pa_cons (pe_glob (v := .ref c.InvalidFields) (by rfl) T.g_InvalidFields rfl) pa_nil))) pa_nil))))))
    (pss_cons (ps_set (i := 1) sc_l_flags.nd rfl (by first | exact Or.inl rfl | exact Or.inr rfl) (pe_op (kAdd (K := K)) (pv 1) (pe_lst (pa_cons (pe_callB (kIsV (K := K)) (by rfl) T.b_isinstance (by decide +kernel) (pa_cons (pv 0) (pa_cons (pe_glob (v := .ref c.InvalidEquation) (by rfl) T.g_InvalidEquation rfl) pa_nil))) (pa_cons (pe_callB (kIsV (K := K)) (by rfl) T.b_isinstance (by decide +kernel) (pa_cons (pv 0) (pa_cons (pe_glob (v := .ref c.InvalidEquations) (by rfl) T.g_InvalidEquations rfl) pa_nil))) (pa_cons (pe_callB (kIsV (K := K)) (by rfl) T.b_isinstance (by decide +kernel) (pa_cons (pv 0) (pa_cons (pe_glob (v := .ref c.InvalidSetting) (by rfl) T.g_InvalidSetting rfl) pa_nil))) pa_nil))))))
    (pss_cons (ps_set (i := 1) sc_l_flags.nd rfl (by first | exact Or.inl rfl | exact Or.inr rfl) (pe_op (kAdd (K := K)) (pv 1) (pe_lst (pa_cons (pe_callB (kIsV (K := K)) (by rfl) T.b_isinstance (by decide +kernel) (pa_cons (pv 0) (pa_cons (pe_glob (v := .ref c.InvalidSettings) (by rfl) T.g_InvalidSettings rfl) pa_nil))) (pa_cons (pe_callB (kIsV (K := K)) (by rfl) T.b_isinstance (by decide +kernel) (pa_cons (pv 0) (pa_cons (pe_glob (v := .ref c.InvalidPairs) (by rfl) T.g_InvalidPairs rfl) pa_nil))) (pa_cons (pe_callB (kIsV (K := K)) (by rfl) T.b_isinstance (by decide +kernel) (pa_cons (pv 0) (pa_cons (pe_glob (v := .ref c.InvalidWishes) (by rfl) T.g_InvalidWishes rfl) pa_nil))) pa_nil))))))
    (pss_cons (ps_set (i := 1) sc_l_flags.nd rfl (by first | exact Or.inl rfl | exact Or.inr rfl) (pe_op (kAdd (K := K)) (pv 1) (pe_lst (pa_cons (pe_callB (kIsV (K := K)) (by rfl) T.b_isinstance (by decide +kernel) (pa_cons (pv 0) (pa_cons (pe_glob (v := .ref c.InvalidNames) (by rfl) T.g_InvalidNames rfl) pa_nil))) (pa_cons (pe_callB (kIsV (K := K)) (by rfl) T.b_isinstance (by decide +kernel) (pa_cons (pv 0) (pa_cons (pe_glob (v := .ref c.InvalidText) (by rfl) T.g_InvalidText rfl) pa_nil))) (pa_cons (pe_callB (kIsV (K := K)) (by rfl) T.b_isinstance (by decide +kernel) (pa_cons (pv 0) (pa_cons (pe_glob (v := .ref c.InvalidCommand) (by rfl) T.g_InvalidCommand rfl) pa_nil))) pa_nil))))))
    (pss_cons (ps_set (i := 1) sc_l_flags.nd rfl (by first | exact Or.inl rfl | exact Or.inr rfl) (pe_op (kAdd (K := K)) (pv 1) (pe_lst (pa_cons (pe_callB (kIsV (K := K)) (by rfl) T.b_isinstance (by decide +kernel) (pa_cons (pv 0) (pa_cons (pe_glob (v := .ref c.UnknownField) (by rfl) T.g_UnknownField rfl) pa_nil))) (pa_cons (pe_callB (kIsV (K := K)) (by rfl) T.b_isinstance (by decide +kernel) (pa_cons (pv 0) (pa_cons (pe_glob (v := .ref c.UnknownReplica) (by rfl) T.g_UnknownReplica rfl) pa_nil))) (pa_cons (pe_callB (kIsV (K := K)) (by rfl) T.b_isinstance (by decide +kernel) (pa_cons (pv 0) (pa_cons (pe_glob (v := .ref c.UnknownMessage) (by rfl) T.g_UnknownMessage rfl) pa_nil))) pa_nil))))))
    (pss_cons (ps_set (i := 1) sc_l_flags.nd rfl (by first | exact Or.inl rfl | exact Or.inr rfl) (pe_op (kAdd (K := K)) (pv 1) (pe_lst (pa_cons (pe_callB (kIsV (K := K)) (by rfl) T.b_isinstance (by decide +kernel) (pa_cons (pv 0) (pa_cons (pe_glob (v := .ref c.NotFree) (by rfl) T.g_NotFree rfl) pa_nil))) (pa_cons (pe_callB (kIsV (K := K)) (by rfl) T.b_isinstance (by decide +kernel) (pa_cons (pv 0) (pa_cons (pe_glob (v := .ref c.NotDetermined) (by rfl) T.g_NotDetermined rfl) pa_nil))) (pa_cons (pe_callB (kIsV (K := K)) (by rfl) T.b_isinstance (by decide +kernel) (pa_cons (pv 0) (pa_cons (pe_glob (v := .ref c.OtherSheet) (by rfl) T.g_OtherSheet rfl) pa_nil))) pa_nil))))))
    (pss_cons (ps_set (i := 1) sc_l_flags.nd rfl (by first | exact Or.inl rfl | exact Or.inr rfl) (pe_op (kAdd (K := K)) (pv 1) (pe_lst (pa_cons (pe_callB (kIsV (K := K)) (by rfl) T.b_isinstance (by decide +kernel) (pa_cons (pv 0) (pa_cons (pe_glob (v := .ref c.Refused) (by rfl) T.g_Refused rfl) pa_nil))) (pa_cons (pe_callB (kIsV (K := K)) (by rfl) T.b_isinstance (by decide +kernel) (pa_cons (pv 0) (pa_cons (pe_glob (v := .ref c.Impossible) (by rfl) T.g_Impossible rfl) pa_nil))) (pa_cons (pe_callB (kIsV (K := K)) (by rfl) T.b_isinstance (by decide +kernel) (pa_cons (pv 0) (pa_cons (pe_glob (v := .ref c.RunFailed) (by rfl) T.g_RunFailed rfl) pa_nil))) pa_nil))))))
    (pss_cons (ps_set (i := 1) sc_l_flags.nd rfl (by first | exact Or.inl rfl | exact Or.inr rfl) (pe_op (kAdd (K := K)) (pv 1) (pe_lst (pa_cons (pe_callB (kIsV (K := K)) (by rfl) T.b_isinstance (by decide +kernel) (pa_cons (pv 0) (pa_cons (pe_glob (v := .ref c.NothingToTakeBack) (by rfl) T.g_NothingToTakeBack rfl) pa_nil))) (pa_cons (pe_callB (kIsV (K := K)) (by rfl) T.b_isinstance (by decide +kernel) (pa_cons (pv 0) (pa_cons (pe_glob (v := .ref c.TooMany) (by rfl) T.g_TooMany rfl) pa_nil))) (pa_cons (pe_callB (kIsV (K := K)) (by rfl) T.b_isinstance (by decide +kernel) (pa_cons (pv 0) (pa_cons (pe_glob (v := .ref c.NoQuotient) (by rfl) T.g_NoQuotient rfl) pa_nil))) pa_nil))))))
    (pss_one (ps_ret (pe_lc (own := [("_law_place", 2), ("_law_flag", 3)]) rfl sc_l_flags.nd (pi_enumA (K := K) rfl (by rfl) T.b_enumerate (pa_cons (pv 1) pa_nil)) (blkOk_by (N := ["_law_e", "_law_found", "_law_place", "_law_flag"]) (sc := defScope s_l_flags) (by decide +kernel)) (fun _ _ _ _ _ => (pg_tupK (K := K) (n := 2) (by rfl) (by rfl) (pgs_cons (pg_name (i := 2) sc_l_flags.nd rfl (by first | exact Or.inl rfl | exact Or.inr rfl)) (pgs_cons (pg_name (i := 3) sc_l_flags.nd rfl (by first | exact Or.inl rfl | exact Or.inr rfl)) pgs_nil)))) (fun _ _ _ _ _ => (pts_one (pt_val (pv 3)))) (fun _ _ _ _ _ => (pv 2)))))))))))))), ?_⟩
  refine q_setE (K := K) (S := S) (G := off S H) (i := 1) (σ := [some (.ref x), none, none, none]) (ev_lstE (ea_eq (ev_isV T0 (i := 0) (j := 0) rfl e0 (by decide)) (ea_eq (ev_isV T0 (i := 0) (j := 1) rfl e0 (by decide)) (ea_eq (ev_isV T0 (i := 0) (j := 2) rfl e0 (by decide)) ea_nil))) (by show 3 ≤ 1000; decide)) f0 (Same.refl _) fun v1 H1 x1 f1 m1 => ?_
  have e1 := e0.mono (x1.off f0.mem)
  dsimp only
  refine q_setE (K := K) (S := S) (G := off S H1) (i := 1) (σ := [some (.ref x), some v1, none, none]) (ev_catL (ev_var (i := 1) rfl m1) (ev_lstE (ea_eq (ev_isV T0 (i := 0) (j := 3) rfl e1 (by decide)) (ea_eq (ev_isV T0 (i := 0) (j := 4) rfl e1 (by decide)) (ea_eq (ev_isV T0 (i := 0) (j := 5) rfl e1 (by decide)) ea_nil))) (by show 3 ≤ 1000; decide)) (by simp)) f1 (Same.refl _) fun v2 H2 x2 f2 m2 => ?_
  have e2 := e1.mono (x2.off f1.mem)
  dsimp only
  refine q_setE (K := K) (S := S) (G := off S H2) (i := 1) (σ := [some (.ref x), some v2, none, none]) (ev_catL (ev_var (i := 1) rfl m2) (ev_lstE (ea_eq (ev_isV T0 (i := 0) (j := 6) rfl e2 (by decide)) (ea_eq (ev_isV T0 (i := 0) (j := 7) rfl e2 (by decide)) (ea_eq (ev_isV T0 (i := 0) (j := 8) rfl e2 (by decide)) ea_nil))) (by show 3 ≤ 1000; decide)) (by simp)) f2 (Same.refl _) fun v3 H3 x3 f3 m3 => ?_
  have e3 := e2.mono (x3.off f2.mem)
  dsimp only
  refine q_setE (K := K) (S := S) (G := off S H3) (i := 1) (σ := [some (.ref x), some v3, none, none]) (ev_catL (ev_var (i := 1) rfl m3) (ev_lstE (ea_eq (ev_isV T0 (i := 0) (j := 9) rfl e3 (by decide)) (ea_eq (ev_isV T0 (i := 0) (j := 10) rfl e3 (by decide)) (ea_eq (ev_isV T0 (i := 0) (j := 11) rfl e3 (by decide)) ea_nil))) (by show 3 ≤ 1000; decide)) (by simp)) f3 (Same.refl _) fun v4 H4 x4 f4 m4 => ?_
  have e4 := e3.mono (x4.off f3.mem)
  dsimp only
  refine q_setE (K := K) (S := S) (G := off S H4) (i := 1) (σ := [some (.ref x), some v4, none, none]) (ev_catL (ev_var (i := 1) rfl m4) (ev_lstE (ea_eq (ev_isV T0 (i := 0) (j := 12) rfl e4 (by decide)) (ea_eq (ev_isV T0 (i := 0) (j := 13) rfl e4 (by decide)) (ea_eq (ev_isV T0 (i := 0) (j := 14) rfl e4 (by decide)) ea_nil))) (by show 3 ≤ 1000; decide)) (by simp)) f4 (Same.refl _) fun v5 H5 x5 f5 m5 => ?_
  have e5 := e4.mono (x5.off f4.mem)
  dsimp only
  refine q_setE (K := K) (S := S) (G := off S H5) (i := 1) (σ := [some (.ref x), some v5, none, none]) (ev_catL (ev_var (i := 1) rfl m5) (ev_lstE (ea_eq (ev_isV T0 (i := 0) (j := 15) rfl e5 (by decide)) (ea_eq (ev_isV T0 (i := 0) (j := 16) rfl e5 (by decide)) (ea_eq (ev_isV T0 (i := 0) (j := 17) rfl e5 (by decide)) ea_nil))) (by show 3 ≤ 1000; decide)) (by simp)) f5 (Same.refl _) fun v6 H6 x6 f6 m6 => ?_
  have e6 := e5.mono (x6.off f5.mem)
  dsimp only
  refine q_setE (K := K) (S := S) (G := off S H6) (i := 1) (σ := [some (.ref x), some v6, none, none]) (ev_catL (ev_var (i := 1) rfl m6) (ev_lstE (ea_eq (ev_isV T0 (i := 0) (j := 18) rfl e6 (by decide)) (ea_eq (ev_isV T0 (i := 0) (j := 19) rfl e6 (by decide)) (ea_eq (ev_isV T0 (i := 0) (j := 20) rfl e6 (by decide)) ea_nil))) (by show 3 ≤ 1000; decide)) (by simp)) f6 (Same.refl _) fun v7 H7 x7 f7 m7 => ?_
  have e7 := e6.mono (x7.off f6.mem)
  dsimp only
  refine q_setE (K := K) (S := S) (G := off S H7) (i := 1) (σ := [some (.ref x), some v7, none, none]) (ev_catL (ev_var (i := 1) rfl m7) (ev_lstE (ea_eq (ev_isV T0 (i := 0) (j := 21) rfl e7 (by decide)) (ea_eq (ev_isV T0 (i := 0) (j := 22) rfl e7 (by decide)) (ea_eq (ev_isV T0 (i := 0) (j := 23) rfl e7 (by decide)) ea_nil))) (by show 3 ≤ 1000; decide)) (by simp)) f7 (Same.refl _) fun v8 H8 x8 f8 m8 => ?_
  have e8 := e7.mono (x8.off f7.mem)
  dsimp only
  refine q_setE (K := K) (S := S) (G := off S H8) (i := 1) (σ := [some (.ref x), some v8, none, none]) (ev_catL (ev_var (i := 1) rfl m8) (ev_lstE (ea_eq (ev_isV T0 (i := 0) (j := 24) rfl e8 (by decide)) (ea_eq (ev_isV T0 (i := 0) (j := 25) rfl e8 (by decide)) (ea_eq (ev_isV T0 (i := 0) (j := 26) rfl e8 (by decide)) ea_nil))) (by show 3 ≤ 1000; decide)) (by simp)) f8 (Same.refl _) fun v9 H9 x9 f9 m9 => ?_
  have e9 := e8.mono (x9.off f8.mem)
  dsimp only
  refine q_retE (K := K) (S := S) (σ := [some (.ref x), some v9, none, none]) (d := flD n) (Ev.imp (ev_lcPD (xs := (List.range 27).zipIdx) (D1 := fun q => .int (q.2 : Nat)) (D2 := fun q => .bool (relB n q.1)) (p := fun q => relB n q.1) (g := fun q => .int (q.2 : Nat)) (i := 2) (j := 3) (walks_enumD (xs := List.range 27) (Dt := fun j => .bool (relB n j)) ((ev_var (i := 1) rfl m9).imp fun _ z => .inl (by rw [z]; rfl))) (by rw [List.length_zipIdx]) (by decide) (fun _ _ => rfl)
    fun e x y G' me sG mx my => ⟨et_valE (K := K) (ev_var (i := 3) rfl my), fun _ => ev_var (i := 2) rfl mx⟩) fun _ e => by rw [e]; exact fl_list hn) f9 (Same.refl _) fun u H10 x10 mu => k u H10 (((((((((x1.trans x2).trans x3).trans x4).trans x5).trans x6).trans x7).trans x8).trans x9).trans x10) mu
theorem ok_l_bases {f : Addr} {fd : FuncData} (F : Fun K "_law_bases" "_law_bases" s_l_bases f fd) (T : Txt K mg c) : FnG P w K mg base CX0 1 f fd ["_law_e"] (spFl K (CL c) baD) := by
  refine fun_okG F sc_l_bases (fun vs H Q E h => ?_) (fun cdv A outer s H vs Q E hg hr h => ?_)
  · obtain ⟨_, _, _, _, rfl, _⟩ := h
    rfl
  obtain ⟨a, S, x, n, rfl, f0, e0, k⟩ := h
  have hn := e0.lt
  have n4 := (due_all n hn).2.2
  have T0 : XAll K (CL c) := T.xall
  refine ⟨_, (pss_cons (ps_set (i := 1) sc_l_bases.nd rfl (by first | exact Or.inl rfl | exact Or.inr rfl) (pe_lst (pa_cons (pe_callB (kIsV (K := K)) (by rfl) T.b_isinstance (by decide +kernel) (pa_cons (pv 0) (pa_cons (pe_glob (v := .ref c.LastheldError) (by rfl) T.g_LastheldError rfl) pa_nil))) (pa_cons (pe_callB (kIsV (K := K)) (by rfl) T.b_isinstance (by decide +kernel) (pa_cons (pv 0) (pa_cons (pe_bltn (v := .ty "ValueError") (by rfl) T.b_ValueError (by decide +kernel) rfl) pa_nil))) (pa_cons (pe_callB (kIsV (K := K)) (by rfl) T.b_isinstance (by decide +kernel) (pa_cons (pv 0) (pa_cons (pe_glob (v := .ref c.MissingError) (by rfl) T.g_MissingError rfl) pa_nil))) pa_nil)))))
    (pss_cons (ps_set (i := 1) sc_l_bases.nd rfl (by first | exact Or.inl rfl | exact Or.inr rfl) (pe_op (kAdd (K := K)) (pv 1) (pe_lst (pa_cons (pe_callB (kIsV (K := K)) (by rfl) T.b_isinstance (by decide +kernel) (pa_cons (pv 0) (pa_cons (pe_bltn (v := .ty "LookupError") (by rfl) T.b_LookupError (by decide +kernel) rfl) pa_nil))) (pa_cons (pe_callB (kIsV (K := K)) (by rfl) T.b_isinstance (by decide +kernel) (pa_cons (pv 0) (pa_cons (pe_glob (v := .ref c.StateError) (by rfl) T.g_StateError rfl) pa_nil))) (pa_cons (pe_callB (kIsV (K := K)) (by rfl) T.b_isinstance (by decide +kernel) (pa_cons (pv 0) (pa_cons (pe_bltn (v := .ty "RuntimeError") (by rfl) T.b_RuntimeError (by decide +kernel) rfl) pa_nil))) pa_nil))))))
    (pss_one (ps_ret (pe_op (kAdd (K := K)) (pv 1) (pe_lst (pa_cons (pe_callB (kIsV (K := K)) (by rfl) T.b_isinstance (by decide +kernel) (pa_cons (pv 0) (pa_cons (pe_glob (v := .ref c.LimitError) (by rfl) T.g_LimitError rfl) pa_nil))) (pa_cons (pe_callB (kIsV (K := K)) (by rfl) T.b_isinstance (by decide +kernel) (pa_cons (pv 0) (pa_cons (pe_bltn (v := .ty "ArithmeticError") (by rfl) T.b_ArithmeticError (by decide +kernel) rfl) pa_nil))) (pa_cons (pe_callB (kIsV (K := K)) (by rfl) T.b_isinstance (by decide +kernel) (pa_cons (pv 0) (pa_cons (pe_tup (pa_cons (pe_bltn (v := .ty "KeyError") (by rfl) T.b_KeyError (by decide +kernel) rfl) (pa_cons (pe_bltn (v := .ty "IndexError") (by rfl) T.b_IndexError (by decide +kernel) rfl) pa_nil))) pa_nil))) pa_nil))))))))), ?_⟩
  refine q_setE (K := K) (S := S) (G := off S H) (i := 1) (σ := [some (.ref x), none]) (ev_lstE (ea_eq (ev_isV T0 (i := 0) (j := 27) rfl e0 (by decide)) (ea_eq (ev_isVT T0 (i := 0) (t := 0) rfl e0 (by decide) rfl) (ea_eq (ev_isV T0 (i := 0) (j := 28) rfl e0 (by decide)) ea_nil))) (by show 3 ≤ 1000; decide)) f0 (Same.refl _) fun v1 H1 x1 f1 m1 => ?_
  have e1 := e0.mono (x1.off f0.mem)
  dsimp only
  refine q_setE (K := K) (S := S) (G := off S H1) (i := 1) (σ := [some (.ref x), some v1]) (ev_catL (ev_var (i := 1) rfl m1) (ev_lstE (ea_eq (ev_isVT T0 (i := 0) (t := 1) rfl e1 (by decide) rfl) (ea_eq (ev_isV T0 (i := 0) (j := 29) rfl e1 (by decide)) (ea_eq (ev_isVT T0 (i := 0) (t := 2) rfl e1 (by decide) rfl) ea_nil))) (by show 3 ≤ 1000; decide)) (by simp)) f1 (Same.refl _) fun v2 H2 x2 f2 m2 => ?_
  have e2 := e1.mono (x2.off f1.mem)
  dsimp only
  refine q_retE (K := K) (S := S) (G := off S H2) (d := baD n) (σ := [some (.ref x), some v2]) (Ev.imp (ev_catL (ev_var (i := 1) rfl m2) (ev_lstE (ea_eq (ev_isV T0 (i := 0) (j := 30) rfl e2 (by decide)) (ea_eq (ev_isVT T0 (i := 0) (t := 3) rfl e2 (by decide) rfl) (ea_eq (ev_isVP T0 (i := 0) (t := 4) (u := 5) rfl e2 (by decide) (by decide) rfl rfl n4) ea_nil))) (by show 3 ≤ 1000; decide)) (by simp)) fun _ e => by rw [e]; rfl) f2 (Same.refl _) fun v3 H3 x3 m3 => k v3 H3 ((x1.trans x2).trans x3) m3
theorem ok_l_is {f : Addr} {fd : FuncData} (F : Fun K "_law_is" "_law_is" s_l_is f fd) (T : Txt K mg c) (F_l_flags : FFl18 P w K mg base (CL c)) (F_l_bases : FBa18 P w K mg base (CL c)) : FnG P w K mg base CX0 2 f fd ["_law_e", "_law_place"] (spIs K (CL c)) := by
  refine fun_okG F sc_l_is (fun vs H Q E h => ?_) (fun cdv A outer s H vs Q E hg hr h => ?_)
  · obtain ⟨_, _, _, _, rfl, _⟩ := h
    rfl
  obtain ⟨a, S, x, n, rfl, n27, f0, e0, k⟩ := h
  have hn := e0.lt
  refine ⟨_, (pss_cons (ps_set (i := 2) sc_l_is.nd rfl (by first | exact Or.inl rfl | exact Or.inr rfl) (pe_ifExp (pt_cmpR op_lt (pv 1) pe_int (nomark _)) pe_int (pe_ifExp (pt_cmpR op_lt (pv 1) pe_int (nomark _)) pe_int (pe_ifExp (pt_cmpR op_lt (pv 1) pe_int (nomark _)) pe_int pe_int))))
    (pss_cons (ps_set (i := 3) sc_l_is.nd rfl (by first | exact Or.inl rfl | exact Or.inr rfl) (pe_op oMul (pe_lst (pa_cons pe_bl pa_nil)) pe_int))
    (pss_cons (ps_asg pe_bl (pg_sub (pv 3) (pe_op oMul pe_int (pv 2)) set_list))
    (pss_cons (ps_asg pe_bl (pg_sub (pv 3) (pe_op (kAdd (K := K)) (pe_op oMul pe_int (pv 2)) pe_int) set_list))
    (pss_one (ps_ret (pe_and (pe_cmpR (kEq (K := K) hr.units) (pe_fn F_l_flags hg (hr.mono (by decide)) (by rfl) pass0 (pa_cons (pv 0) pa_nil)) (pe_lst (pa_cons (pv 1) pa_nil)) (nomark _)) (pe_one (pe_cmpR (kEq (K := K) hr.units) (pe_fn F_l_bases hg (hr.mono (by decide)) (by rfl) pass0 (pa_cons (pv 0) pa_nil)) (pv 3) (nomark _)))))))))), ?_⟩
  have g4 := (due_all n hn).2.1
  refine q_setE (K := K) (S := S) (G := off S H) (i := 2) (σ := [some (.ref x), some (.int (n : Nat)), none, none]) (d := .int ((grpN n : Nat) : Int)) (ev_if (B := (· = decide (((n : Nat) : Int) < 15))) (et_testE (K := K) (ev_cmpE (g := fun i j => decide (i < j)) (ev_var (i := 1) rfl (.int _)) ev_i)) (fun h => ev_i.imp fun _ e => ?_) fun h => ev_if (B := (· = decide (((n : Nat) : Int) < 18))) (et_testE (K := K) (ev_cmpE (g := fun i j => decide (i < j)) (ev_var (i := 1) rfl (.int _)) ev_i)) (fun h2 => ev_i.imp fun _ e => ?_) fun h2 => ev_if (B := (· = decide (((n : Nat) : Int) < 25))) (et_testE (K := K) (ev_cmpE (g := fun i j => decide (i < j)) (ev_var (i := 1) rfl (.int _)) ev_i)) (fun h3 => ev_i.imp fun _ e => ?_) fun h3 => ev_i.imp fun _ e => ?_) f0 (Same.refl _) fun v2 H1 x1 f1 m2 => ?_
  · have h := of_decide_eq_true h.symm
    rw [e, show grpN n = 0 by unfold grpN; rw [if_pos (by omega)]]
    rfl
  · have h := of_decide_eq_false h.symm
    have h2 := of_decide_eq_true h2.symm
    rw [e, show grpN n = 1 by unfold grpN; rw [if_neg (by omega), if_pos (by omega)]]
    rfl
  · have h2 := of_decide_eq_false h2.symm
    have h3 := of_decide_eq_true h3.symm
    rw [e, show grpN n = 2 by unfold grpN; rw [if_neg (by omega), if_neg (by omega), if_pos (by omega)]]
    rfl
  · have h3 := of_decide_eq_false h3.symm
    rw [e, show grpN n = 3 by unfold grpN; rw [if_neg (by omega), if_neg (by omega), if_neg (by omega), if_pos (by omega)]]
    rfl
  cases m2
  have e1 := e0.mono (x1.off f0.mem)
  dsimp only
  refine q_repB (K := K) (S := S) (G := off S H1) (j := 3) (n := 9) (b := false) (σ := [some (.ref x), some (.int (n : Nat)), some (.int (grpN n : Nat)), none]) (ev_lstE (ea_eq ev_b ea_nil) (by show 1 ≤ 1000; decide)) ev_i (by decide) f1 (Same.refl _) fun L H2 x2 f2 nL hL => ?_
  have La := f1.ne nL
  have LS := f1.out nL
  have s2 : Same (off S H1) (off S H2) := x2.off f1.mem
  have e2 := e1.mono s2
  have fS : LK.Fr a S H2 := f1.ext x2
  dsimp only
  refine q_storeE (K := K) (T := S) (GT := off S H2) (S := S) (G := off S H2) (L := L) (i := 3) (k := 2 * grpN n) (acc := List.replicate 9 (V.bl false)) (C := (· = .bool true)) (σ := [some (.ref x), some (.int (n : Nat)), some (.int (grpN n : Nat)), some (.ref L)]) rfl hL La ev_b ((ev_mulE ev_i (ev_var (i := 2) rfl (.int _)) (big_mul (s := 2) (t := 3) (by decide) (by show (grpN n) < 8; omega) (by decide))).imp fun _ e => by rw [e]; congr 1) (by rw [List.length_replicate]; omega) fS (Same.refl _) fS (Same.refl _) fun v d H3 x3 f3 hL3 m3 c3 => ?_
  subst c3
  cases m3
  have x13 : Ext a H1 (upd H3 L (.lst ((List.replicate 9 (V.bl false)).set (2 * grpN n) (.bl true)))) := (x2.trans x3).store nL La
  have f3u : LK.Fr a S (upd H3 L (.lst ((List.replicate 9 (V.bl false)).set (2 * grpN n) (.bl true)))) := f3.upd La
  have h3u : upd H3 L (.lst ((List.replicate 9 (V.bl false)).set (2 * grpN n) (.bl true))) L = some (.lst ((List.replicate 9 (V.bl false)).set (2 * grpN n) (.bl true))) := upd_same
  generalize upd H3 L (.lst ((List.replicate 9 (V.bl false)).set (2 * grpN n) (.bl true))) = H4 at x13 f3u h3u ⊢
  dsimp only
  refine q_storeE (K := K) (T := S) (GT := off S H4) (S := S) (G := off S H4) (L := L) (i := 3) (k := 2 * grpN n + 1) (acc := (List.replicate 9 (V.bl false)).set (2 * grpN n) (.bl true)) (C := (· = .bool true)) (σ := [some (.ref x), some (.int (n : Nat)), some (.int (grpN n : Nat)), some (.ref L)]) rfl h3u La ev_b ((ev_addE (ev_mulE ev_i (ev_var (i := 2) rfl (.int _)) (big_mul (s := 2) (t := 3) (by decide) (by show (grpN n) < 8; omega) (by decide))) ev_i).imp fun _ e => by rw [e]; congr 1) (by rw [List.length_set, List.length_replicate]; omega) f3u (Same.refl _) f3u (Same.refl _) fun v5 d5 H5 x5 f5 hL5 m5 c5 => ?_
  subst c5
  cases m5
  have x15 := (x13.trans x5).store (o := .lst (dueL (grpN n))) nL La
  have f5u : LK.Fr a S (upd H5 L (.lst (dueL (grpN n)))) := f5.upd La
  have h5u : upd H5 L (.lst (dueL (grpN n))) L = some (.lst (dueL (grpN n))) := upd_same
  dsimp only
  show tRet _ _ _ (upd H5 L (HO.lst (dueL (grpN n))))
  generalize upd H5 L (.lst (dueL (grpN n))) = H6 at x15 f5u h5u ⊢
  have e6 := e1.mono (x15.off f1.mem)
  have m6 : D K (off S H6) (.ref L) (.list ((dueB (grpN n)).map .bool)) := .lst (off_mk LS h5u) (by rw [due_map]; exact bools_da _)
  refine q_retE (K := K) (S := S) (G := off S H6) (d := .bool true) (σ := [some (.ref x), some (.int (n : Nat)), some (.int (grpN n : Nat)), some (.ref L)]) (Ev.imp (ev_andE (b := true) (c := true) ((ev_eqDE (d := flD n) (e := flD n) (ev_fl (i := 0) rfl e6) ((ev_lstE (ea_eq (ev_var (i := 1) rfl (.int _)) ea_nil) (by show 1 ≤ 1000; decide)).imp fun _ z => by rw [z]; unfold flD; rw [if_pos n27]) (fl_eqOk n) (fl_eqOk n)).imp fun _ z => by rw [z, (fl_eqOk n).reflV]) fun _ => (ev_eqDE (d := baD n) (e := baD n) (ev_fl (i := 0) rfl e6) ((ev_var (i := 3) rfl m6).imp fun _ z => by rw [z, ba_due hn]) (by rw [ba_due hn]; exact bools_eqOk _) (by rw [ba_due hn]; exact bools_eqOk _)).imp fun _ z => by rw [z, (show EqOk (baD n) by rw [ba_due hn]; exact bools_eqOk _).reflV]) fun _ e => e) f5u (Same.refl _) fun u H7 x7 mu => ?_
  cases mu
  exact k H7 ((x1.trans x15).trans x7)
end
end K18
--EXV InvalidName InvalidNumber InvalidLevel InvalidClock InvalidCount InvalidFields InvalidEquation InvalidEquations InvalidSetting InvalidSettings InvalidPairs InvalidWishes InvalidNames InvalidText InvalidCommand UnknownField UnknownReplica UnknownMessage NotFree NotDetermined OtherSheet Refused Impossible RunFailed NothingToTakeBack TooMany NoQuotient LastheldError MissingError StateError LimitError
set_option Elab.async false
set_option linter.all false
set_option maxRecDepth 100000
set_option maxHeartbeats 1000000
set_option exponentiation.threshold 20000
namespace K18
open PySem PySem.Spec L2 LK
open PyProof.Rows hiding St
local macro_rules | `(tactic| walk_at "ext") => `(tactic| first | exact Ext.refl | assumption | (refine Ext.trans ?_ (by assumption); walk_at "ext"))
local macro_rules | `(tactic| walk_at "sm") => `(tactic| first | exact Same.refl _ | assumption | (refine Ext.off ?_ (Fr.mem (by assumption)); walk_at "ext"))
local macro_rules | `(tactic| walk_at "dm") => `(tactic| first | assumption | exact .int _ | exact .bl _ | exact .str _ | exact .non | (refine D.mono (by assumption) ?_; walk_at "sm"))
local macro_rules | `(tactic| walk_at "sd") => `(tactic| first | assumption | rfl | decide | omega | (show _ ≤ 1000; decide))
local macro_rules | `(tactic| walk_at "ea") => `(tactic| first | exact ea_nil | (refine ea_eq ?_ ?_; (walk_at "ev"); (walk_at "ea")))
local macro_rules | `(tactic| walk_at "et") => `(tactic| first
  | (refine et_valE ?_; walk_at "ev") | (refine et_testE ?_; walk_at "ev") | (refine et_notE ?_; walk_at "et")
  | (refine et_andE ?_ (fun _ => ?_); (walk_at "et"); (walk_at "et")) | (refine et_orE ?_ (fun _ => ?_); (walk_at "et"); (walk_at "et")))
local macro_rules | `(tactic| walk_at "ev") => `(tactic| first
  | exact ev_i | exact ev_s | exact ev_b | exact ev_n | exact ev_dnew
  | (refine ev_var rfl ?_; walk_at "dm")
  | (refine ev_tupE ?_ ?_; (walk_at "ea"); (walk_at "sd")) | (refine ev_lstE ?_ ?_; (walk_at "ea"); (walk_at "sd"))
  | (refine ev_negE ?_; walk_at "ev")
  | (refine ev_isiE ?_ ?_; (walk_at "ev"); (walk_at "sd"))
  | (refine ev_lenE ?_ ?_ ?_; (walk_at "ev"); (walk_at "sd"); (walk_at "sd"))
  | (refine ev_atL ?_ ?_ ?_; (walk_at "ev"); (walk_at "ev"); (walk_at "sd")) | (refine ev_atT ?_ ?_ ?_; (walk_at "ev"); (walk_at "ev"); (walk_at "sd"))
  | (refine ev_addE ?_ ?_; (walk_at "ev"); (walk_at "ev")) | (refine ev_cmpE ?_ ?_; (walk_at "ev"); (walk_at "ev")) | (refine ev_i0E ?_ ?_; (walk_at "ev"); (walk_at "ev"))
  | (refine ev_mulE ?_ ?_ ?_; (walk_at "ev"); (walk_at "ev"); (walk_at "sd"))
  | (refine ev_eqIE ?_ ?_; (walk_at "ev"); (walk_at "ev")) | (refine ev_neIE ?_ ?_; (walk_at "ev"); (walk_at "ev"))
  | (refine ev_andE ?_ (fun _ => ?_); (walk_at "ev"); (walk_at "ev")) | (refine ev_orE ?_ (fun _ => ?_); (walk_at "ev"); (walk_at "ev")) | (refine ev_notE ?_; walk_at "ev")
  | (refine ev_fn ?_ ?_; (walk_at "ea"); (walk_at "sd")))
local macro_rules | `(tactic| walk_at "lit") => `(tactic| first | exact ev_i | exact ev_s | exact ev_b | exact ev_n | exact ev_dnew | (refine ev_negE ?_; walk_at "lit") | (refine ev_tupE ?_ (by decide); walk_at "lits") | (refine ev_lstE ?_ (by decide); walk_at "lits") | (refine ev_powE ?_ ?_ ⟨by decide, by decide, by decide⟩ <;> walk_at "lit"))
local macro_rules | `(tactic| walk_at "lits") => `(tactic| first | exact ea_nil | (refine ea_eq ?_ ?_; (walk_at "lit"); (walk_at "lits")))
section
variable {P : Program} {w : World} {K : PySem.W.Frag} {mg : Str → Option Value} {c : Cls} {base : Heap} {a : Addr} {G : Hp} {S : List Addr} {H : Hp}
theorem ok_l_values_right {f : Addr} {fd : FuncData} (F : Fun K "_law_values_right" "_law_values_right" s_l_values_right f fd) (T : Txt K mg c) (F_l_is : FIs18 P w K mg base (CL c)) : FnG P w K mg base CX0 3 f fd ["_law_thing"] (spG K (fun ds => ∃ d, ds = [d] ∧ Tame d) fun _ r => r = .bool true) := by
  refine fun_okG F sc_l_values_right (fun vs H Q E h => spG_len (n := 1) (fun ds ⟨_, e, _⟩ => by rw [e]; rfl) h) (fun cdv A outer s H vs Q E hg hr h => ?_)
  obtain ⟨a, S0, ds, f0, m, ⟨d, rfl, ht⟩, k⟩ := h
  obtain ⟨v0, rfl, m0⟩ := DA.one m
  refine ⟨_, (pss_cons (ps_set (i := 1) sc_l_values_right.nd rfl (by first | exact Or.inl rfl | exact Or.inr rfl) (pe_lst (pa_cons (pe_mkX (v_InvalidName T) (by decide) (hr.mono (by decide)) (by rfl) (pa_cons (pv 0) pa_nil)) (pa_cons (pe_mkX (v_InvalidNumber T) (by decide) (hr.mono (by decide)) (by rfl) (pa_cons (pv 0) pa_nil)) (pa_cons (pe_mkX (v_InvalidLevel T) (by decide) (hr.mono (by decide)) (by rfl) (pa_cons (pv 0) pa_nil)) (pa_cons (pe_mkX (v_InvalidClock T) (by decide) (hr.mono (by decide)) (by rfl) (pa_cons (pv 0) pa_nil)) (pa_cons (pe_mkX (v_InvalidCount T) (by decide) (hr.mono (by decide)) (by rfl) (pa_cons (pv 0) pa_nil)) pa_nil)))))))
    (pss_cons (ps_set (i := 2) sc_l_values_right.nd rfl (by first | exact Or.inl rfl | exact Or.inr rfl) (pe_lst (pa_cons (pe_mkXK (vk_InvalidName T) (hr.mono (by decide)) (by rfl) (pk_cons (pv 0) pk_nil)) (pa_cons (pe_mkXK (vk_InvalidNumber T) (hr.mono (by decide)) (by rfl) (pk_cons (pv 0) pk_nil)) (pa_cons (pe_mkXK (vk_InvalidLevel T) (hr.mono (by decide)) (by rfl) (pk_cons (pv 0) pk_nil)) pa_nil)))))
    (pss_cons (ps_set (i := 2) sc_l_values_right.nd rfl (by first | exact Or.inl rfl | exact Or.inr rfl) (pe_op (kAdd (K := K)) (pv 2) (pe_lst (pa_cons (pe_mkXK (vk_InvalidClock T) (hr.mono (by decide)) (by rfl) (pk_cons (pv 0) pk_nil)) (pa_cons (pe_mkXK (vk_InvalidCount T) (hr.mono (by decide)) (by rfl) (pk_cons (pv 0) pk_nil)) pa_nil)))))
    (pss_cons (ps_set (i := 3) sc_l_values_right.nd rfl (by first | exact Or.inl rfl | exact Or.inr rfl) (pe_lst (pa_cons pe_int (pa_cons pe_int (pa_cons pe_int (pa_cons pe_int (pa_cons pe_int pa_nil)))))))
    (pss_cons (ps_set (i := 1) sc_l_values_right.nd rfl (by first | exact Or.inl rfl | exact Or.inr rfl) (pe_op (kAdd (K := K)) (pv 1) (pe_lst (pa_cons (pe_mkX (v_InvalidEquation T) (by decide) (hr.mono (by decide)) (by rfl) (pa_cons (pv 0) pa_nil)) (pa_cons (pe_mkX (v_InvalidSetting T) (by decide) (hr.mono (by decide)) (by rfl) (pa_cons (pv 0) pa_nil)) (pa_cons (pe_mkX (v_UnknownField T) (by decide) (hr.mono (by decide)) (by rfl) (pa_cons (pv 0) pa_nil)) (pa_cons (pe_mkX (v_UnknownReplica T) (by decide) (hr.mono (by decide)) (by rfl) (pa_cons (pv 0) pa_nil)) pa_nil)))))))
    (pss_cons (ps_set (i := 2) sc_l_values_right.nd rfl (by first | exact Or.inl rfl | exact Or.inr rfl) (pe_op (kAdd (K := K)) (pv 2) (pe_lst (pa_cons (pe_mkXK (vk_InvalidEquation T) (hr.mono (by decide)) (by rfl) (pk_cons (pv 0) pk_nil)) (pa_cons (pe_mkXK (vk_InvalidSetting T) (hr.mono (by decide)) (by rfl) (pk_cons (pv 0) pk_nil)) (pa_cons (pe_mkXK (vk_UnknownField T) (hr.mono (by decide)) (by rfl) (pk_cons (pv 0) pk_nil)) pa_nil))))))
    (pss_cons (ps_expr (pe_bmK (K := K) PySem.F.plainAttrs_list PySem.F.slot_list_append PySem.F.type_list_append mt_append (pv 2) (pa_cons (pe_mkXK (vk_UnknownReplica T) (hr.mono (by decide)) (by rfl) (pk_cons (pv 0) pk_nil)) pa_nil)))
    (pss_cons (ps_set (i := 1) sc_l_values_right.nd rfl (by first | exact Or.inl rfl | exact Or.inr rfl) (pe_op (kAdd (K := K)) (pv 1) (pe_lst (pa_cons (pe_mkX (v_UnknownMessage T) (by decide) (hr.mono (by decide)) (by rfl) (pa_cons (pv 0) pa_nil)) (pa_cons (pe_mkX (v_NoQuotient T) (by decide) (hr.mono (by decide)) (by rfl) (pa_cons (pv 0) pa_nil)) pa_nil)))))
    (pss_cons (ps_set (i := 2) sc_l_values_right.nd rfl (by first | exact Or.inl rfl | exact Or.inr rfl) (pe_op (kAdd (K := K)) (pv 2) (pe_lst (pa_cons (pe_mkXK (vk_UnknownMessage T) (hr.mono (by decide)) (by rfl) (pk_cons (pv 0) pk_nil)) (pa_cons (pe_mkXK (vk_NoQuotient T) (hr.mono (by decide)) (by rfl) (pk_cons (pv 0) pk_nil)) pa_nil)))))
    (pss_cons (ps_set (i := 3) sc_l_values_right.nd rfl (by first | exact Or.inl rfl | exact Or.inr rfl) (pe_op (kAdd (K := K)) (pv 3) (pe_lst (pa_cons pe_int (pa_cons pe_int (pa_cons pe_int (pa_cons pe_int (pa_cons pe_int (pa_cons pe_int pa_nil)))))))))
    (pss_cons (ps_for PassesOwn.never rfl (pi_list (pe_op (kAdd (K := K)) (pe_listZipR (K := K) rfl rfl (by rfl) T.b_list (by rfl) T.b_zip (pv 1) (pv 3)) (pe_listZipR (K := K) rfl rfl (by rfl) T.b_list (by rfl) T.b_zip (pv 2) (pv 3)))) (pg_tupK (K := K) (n := 2) (by rfl) (by rfl) (pgs_cons (pg_name (i := 4) sc_l_values_right.nd rfl (by first | exact Or.inl rfl | exact Or.inr rfl)) (pgs_cons (pg_name (i := 5) sc_l_values_right.nd rfl (by first | exact Or.inl rfl | exact Or.inr rfl)) pgs_nil)))
    (pss_one (ps_if (PW.pt (pw_or (pt_not (pt_val (pe_fn F_l_is hg (hr.mono (by decide)) (by rfl) pass0 (pa_cons (pv 4) (pa_cons (pv 5) pa_nil))))) (pw_or1 (pt_cmpR (kNe (K := K) hr.units) (pe_callB (kRepr (K := K) hg hr.units) (by rfl) T.b_repr (by decide +kernel) (pa_cons (pe_xgV (K := K) rfl (pv 4)) pa_nil)) (pe_callB (kRepr (K := K) hg hr.units) (by rfl) T.b_repr (by decide +kernel) (pa_cons (pv 0) pa_nil)) (nomark _)))))
    (pss_one (ps_ret pe_bl))
    pss_nil)))
    (pss_one (ps_ret pe_bl))))))))))))), ?_⟩
  have x0 : Ext a H H := Ext.refl
  refine q_lstX (K := K) (cs := CL c) (f := "value") (d := d) (S := S0) (G := off (S0) H) (ns := [0, 1, 2, 3, 4]) (j := 1) (σ := [some v0, none, none, none, none, none]) (evx_cons (evx_p (cs := CL c) (n := 0) (ev_var (i := 0) rfl m0) rfl (by decide) T.xc_InvalidName.is T.xc_InvalidName.fl T.nf_InvalidName_value) (evx_cons (evx_p (cs := CL c) (n := 1) (ev_var (i := 0) rfl m0) rfl (by decide) T.xc_InvalidNumber.is T.xc_InvalidNumber.fl T.nf_InvalidNumber_value) (evx_cons (evx_p (cs := CL c) (n := 2) (ev_var (i := 0) rfl m0) rfl (by decide) T.xc_InvalidLevel.is T.xc_InvalidLevel.fl T.nf_InvalidLevel_value) (evx_cons (evx_p (cs := CL c) (n := 3) (ev_var (i := 0) rfl m0) rfl (by decide) T.xc_InvalidClock.is T.xc_InvalidClock.fl T.nf_InvalidClock_value) (evx_cons (evx_p (cs := CL c) (n := 4) (ev_var (i := 0) rfl m0) rfl (by decide) T.xc_InvalidCount.is T.xc_InvalidCount.fl T.nf_InvalidCount_value) evx_nil))))) (by decide) f0 (Same.refl _) fun L1 vs1 H1 x1 f1 n1 a1 h1 ax1 => ?_
  have s1 : Same (off (S0) H) (off (L1 :: S0) H1) := same_off_push n1 (x1.off f0.mem)
  have n1 := x0.fresh n1 a1
  have z1 := x0.trans x1
  have m0_1 := m0.mono s1
  dsimp only
  refine q_lstX (K := K) (cs := CL c) (f := "value") (d := d) (S := L1 :: S0) (G := off (L1 :: S0) H1) (ns := [0, 1, 2]) (j := 2) (σ := [some v0, some (.ref L1), none, none, none, none]) (evx_cons (evx_k (cs := CL c) (n := 0) (ev_var (i := 0) rfl m0_1) rfl (by decide) T.xc_InvalidName.is T.xc_InvalidName.fl T.nf_InvalidName_value) (evx_cons (evx_k (cs := CL c) (n := 1) (ev_var (i := 0) rfl m0_1) rfl (by decide) T.xc_InvalidNumber.is T.xc_InvalidNumber.fl T.nf_InvalidNumber_value) (evx_cons (evx_k (cs := CL c) (n := 2) (ev_var (i := 0) rfl m0_1) rfl (by decide) T.xc_InvalidLevel.is T.xc_InvalidLevel.fl T.nf_InvalidLevel_value) evx_nil))) (by decide) f1 (Same.refl _) fun L2 vs2 H2 x2 f2 n2 a2 h2 ax2 => ?_
  have s2 : Same (off (L1 :: S0) H1) (off (L2 :: L1 :: S0) H2) := same_off_push n2 (x2.off f1.mem)
  have n2 := z1.fresh n2 a2
  have z2 := z1.trans x2
  have h2_1 := x2.keep _ _ a1 h1
  have ax2_1 := ax1.mono s2
  have m0_2 := m0_1.mono s2
  dsimp only
  refine q_catX (K := K) (cs := CL c) (f := "value") (d := d) (S := L2 :: L1 :: S0) (G := off (L2 :: L1 :: S0) H2) (ns := [0, 1, 2]) (ms := [3, 4]) (i := 2) (j := 2) (σ := [some v0, some (.ref L1), some (.ref L2), none, none, none]) rfl h2 a2 ax2 (evx_cons (evx_k (cs := CL c) (n := 3) (ev_var (i := 0) rfl m0_2) rfl (by decide) T.xc_InvalidClock.is T.xc_InvalidClock.fl T.nf_InvalidClock_value) (evx_cons (evx_k (cs := CL c) (n := 4) (ev_var (i := 0) rfl m0_2) rfl (by decide) T.xc_InvalidCount.is T.xc_InvalidCount.fl T.nf_InvalidCount_value) evx_nil)) (by decide) (by decide) f2 (Same.refl _) fun L3 vs3 H3 x3 f3 n3 a3 h3 ax3 => ?_
  have s3 : Same (off (L2 :: L1 :: S0) H2) (off (L3 :: L2 :: L1 :: S0) H3) := same_off_push n3 (x3.off f2.mem)
  have n3 := z2.fresh n3 a3
  have z3 := z2.trans x3
  have h3_1 := x3.keep _ _ a1 h2_1
  have ax3_1 := ax2_1.mono s3
  have m0_3 := m0_2.mono s3
  dsimp only
  refine q_setE (K := K) (S := L3 :: L2 :: L1 :: S0) (G := off (L3 :: L2 :: L1 :: S0) H3) (i := 3) (σ := [some v0, some (.ref L1), some (.ref L3), none, none, none]) (ev_lstE (ea_eq ev_i (ea_eq ev_i (ea_eq ev_i (ea_eq ev_i (ea_eq ev_i ea_nil))))) (by simp)) f3 (Same.refl _) fun v4 H4 x4 f4 m3_4 => ?_
  have s4 := x4.off f3.mem
  have z4 := z3.trans x4
  have h4_1 := x4.keep _ _ a1 h3_1
  have ax4_1 := ax3_1.mono s4
  have h4_2 := x4.keep _ _ a3 h3
  have ax4_2 := ax3.mono s4
  have m0_4 := m0_3.mono s4
  dsimp only
  refine q_catX (K := K) (cs := CL c) (f := "value") (d := d) (S := L3 :: L2 :: L1 :: S0) (G := off (L3 :: L2 :: L1 :: S0) H4) (ns := [0, 1, 2, 3, 4]) (ms := [6, 8, 15, 16]) (i := 1) (j := 1) (σ := [some v0, some (.ref L1), some (.ref L3), some v4, none, none]) rfl h4_1 a1 ax4_1 (evx_cons (evx_p (cs := CL c) (n := 6) (ev_var (i := 0) rfl m0_4) rfl (by decide) T.xc_InvalidEquation.is T.xc_InvalidEquation.fl T.nf_InvalidEquation_value) (evx_cons (evx_p (cs := CL c) (n := 8) (ev_var (i := 0) rfl m0_4) rfl (by decide) T.xc_InvalidSetting.is T.xc_InvalidSetting.fl T.nf_InvalidSetting_value) (evx_cons (evx_p (cs := CL c) (n := 15) (ev_var (i := 0) rfl m0_4) rfl (by decide) T.xc_UnknownField.is T.xc_UnknownField.fl T.nf_UnknownField_value) (evx_cons (evx_p (cs := CL c) (n := 16) (ev_var (i := 0) rfl m0_4) rfl (by decide) T.xc_UnknownReplica.is T.xc_UnknownReplica.fl T.nf_UnknownReplica_value) evx_nil)))) (by decide) (by decide) f4 (Same.refl _) fun L5 vs5 H5 x5 f5 n5 a5 h5 ax5 => ?_
  have s5 : Same (off (L3 :: L2 :: L1 :: S0) H4) (off (L5 :: L3 :: L2 :: L1 :: S0) H5) := same_off_push n5 (x5.off f4.mem)
  have n5 := z4.fresh n5 a5
  have z5 := z4.trans x5
  have h5_2 := x5.keep _ _ a3 h4_2
  have ax5_2 := ax4_2.mono s5
  have m0_5 := m0_4.mono s5
  have m3_5 := m3_4.mono s5
  dsimp only
  refine q_catX (K := K) (cs := CL c) (f := "value") (d := d) (S := L5 :: L3 :: L2 :: L1 :: S0) (G := off (L5 :: L3 :: L2 :: L1 :: S0) H5) (ns := [0, 1, 2, 3, 4]) (ms := [6, 8, 15]) (i := 2) (j := 2) (σ := [some v0, some (.ref L5), some (.ref L3), some v4, none, none]) rfl h5_2 a3 ax5_2 (evx_cons (evx_k (cs := CL c) (n := 6) (ev_var (i := 0) rfl m0_5) rfl (by decide) T.xc_InvalidEquation.is T.xc_InvalidEquation.fl T.nf_InvalidEquation_value) (evx_cons (evx_k (cs := CL c) (n := 8) (ev_var (i := 0) rfl m0_5) rfl (by decide) T.xc_InvalidSetting.is T.xc_InvalidSetting.fl T.nf_InvalidSetting_value) (evx_cons (evx_k (cs := CL c) (n := 15) (ev_var (i := 0) rfl m0_5) rfl (by decide) T.xc_UnknownField.is T.xc_UnknownField.fl T.nf_UnknownField_value) evx_nil))) (by decide) (by decide) f5 (Same.refl _) fun L6 vs6 H6 x6 f6 n6 a6 h6 ax6 => ?_
  have s6 : Same (off (L5 :: L3 :: L2 :: L1 :: S0) H5) (off (L6 :: L5 :: L3 :: L2 :: L1 :: S0) H6) := same_off_push n6 (x6.off f5.mem)
  have n6 := z5.fresh n6 a6
  have z6 := z5.trans x6
  have h6_1 := x6.keep _ _ a5 h5
  have ax6_1 := ax5.mono s6
  have m0_6 := m0_5.mono s6
  have m3_6 := m3_5.mono s6
  dsimp only
  refine q_appX (K := K) (cs := CL c) (f := "value") (d := d) (S := L6 :: L5 :: L3 :: L2 :: L1 :: S0) (G := off (L6 :: L5 :: L3 :: L2 :: L1 :: S0) H6) (ns := [0, 1, 2, 3, 4, 6, 8, 15]) (i := 2) (σ := [some v0, some (.ref L5), some (.ref L6), some v4, none, none]) rfl h6 a6 (by simp) ax6 (evx_k (cs := CL c) (n := 16) (ev_var (i := 0) rfl m0_6) rfl (by decide) T.xc_UnknownReplica.is T.xc_UnknownReplica.fl T.nf_UnknownReplica_value) (by decide) f6 (Same.refl _) fun vs7 H7 f7 s7 keep7 z7 h7 ax7 => ?_
  have z7 := z7 _ z6 n6
  have h7_1 := keep7 _ _ (fun z => by rw [z] at h6_1; rw [h6] at h6_1; exact absurd (Option.some.inj h6_1) (by intro z; injection z with z; have := congrArg List.length z; rw [ax6.len, ax6_1.len] at this; exact absurd this (by decide))) a5 h6_1
  have ax7_1 := ax6_1.mono s7
  have m0_7 := m0_6.mono s7
  have m3_7 := m3_6.mono s7
  dsimp only
  refine q_catX (K := K) (cs := CL c) (f := "value") (d := d) (S := L6 :: L5 :: L3 :: L2 :: L1 :: S0) (G := off (L6 :: L5 :: L3 :: L2 :: L1 :: S0) H7) (ns := [0, 1, 2, 3, 4, 6, 8, 15, 16]) (ms := [17, 26]) (i := 1) (j := 1) (σ := [some v0, some (.ref L5), some (.ref L6), some v4, none, none]) rfl h7_1 a5 ax7_1 (evx_cons (evx_p (cs := CL c) (n := 17) (ev_var (i := 0) rfl m0_7) rfl (by decide) T.xc_UnknownMessage.is T.xc_UnknownMessage.fl T.nf_UnknownMessage_value) (evx_cons (evx_p (cs := CL c) (n := 26) (ev_var (i := 0) rfl m0_7) rfl (by decide) T.xc_NoQuotient.is T.xc_NoQuotient.fl T.nf_NoQuotient_value) evx_nil)) (by decide) (by decide) f7 (Same.refl _) fun L8 vs8 H8 x8 f8 n8 a8 h8 ax8 => ?_
  have s8 : Same (off (L6 :: L5 :: L3 :: L2 :: L1 :: S0) H7) (off (L8 :: L6 :: L5 :: L3 :: L2 :: L1 :: S0) H8) := same_off_push n8 (x8.off f7.mem)
  have n8 := z7.fresh n8 a8
  have z8 := z7.trans x8
  have h8_2 := x8.keep _ _ a6 h7
  have ax8_2 := ax7.mono s8
  have m0_8 := m0_7.mono s8
  have m3_8 := m3_7.mono s8
  dsimp only
  refine q_catX (K := K) (cs := CL c) (f := "value") (d := d) (S := L8 :: L6 :: L5 :: L3 :: L2 :: L1 :: S0) (G := off (L8 :: L6 :: L5 :: L3 :: L2 :: L1 :: S0) H8) (ns := [0, 1, 2, 3, 4, 6, 8, 15, 16]) (ms := [17, 26]) (i := 2) (j := 2) (σ := [some v0, some (.ref L8), some (.ref L6), some v4, none, none]) rfl h8_2 a6 ax8_2 (evx_cons (evx_k (cs := CL c) (n := 17) (ev_var (i := 0) rfl m0_8) rfl (by decide) T.xc_UnknownMessage.is T.xc_UnknownMessage.fl T.nf_UnknownMessage_value) (evx_cons (evx_k (cs := CL c) (n := 26) (ev_var (i := 0) rfl m0_8) rfl (by decide) T.xc_NoQuotient.is T.xc_NoQuotient.fl T.nf_NoQuotient_value) evx_nil)) (by decide) (by decide) f8 (Same.refl _) fun L9 vs9 H9 x9 f9 n9 a9 h9 ax9 => ?_
  have s9 : Same (off (L8 :: L6 :: L5 :: L3 :: L2 :: L1 :: S0) H8) (off (L9 :: L8 :: L6 :: L5 :: L3 :: L2 :: L1 :: S0) H9) := same_off_push n9 (x9.off f8.mem)
  have n9 := z8.fresh n9 a9
  have z9 := z8.trans x9
  have h9_1 := x9.keep _ _ a8 h8
  have ax9_1 := ax8.mono s9
  have m0_9 := m0_8.mono s9
  have m3_9 := m3_8.mono s9
  dsimp only
  refine q_setE (K := K) (S := L9 :: L8 :: L6 :: L5 :: L3 :: L2 :: L1 :: S0) (G := off (L9 :: L8 :: L6 :: L5 :: L3 :: L2 :: L1 :: S0) H9) (i := 3) (σ := [some v0, some (.ref L8), some (.ref L9), some v4, none, none]) (ev_catL (ev_var (i := 3) rfl m3_9) (ev_lstE (ea_eq ev_i (ea_eq ev_i (ea_eq ev_i (ea_eq ev_i (ea_eq ev_i (ea_eq ev_i ea_nil)))))) (by simp)) (by simp)) f9 (Same.refl _) fun v10 H10 x10 f10 m3_10 => ?_
  have s10 := x10.off f9.mem
  have z10 := z9.trans x10
  have h10_1 := x10.keep _ _ a8 h9_1
  have ax10_1 := ax9_1.mono s10
  have h10_2 := x10.keep _ _ a9 h9
  have ax10_2 := ax9.mono s10
  have m0_10 := m0_9.mono s10
  dsimp only
  refine q_forXX (K := K) (cs := CL c) (f := "value") (d := d) (S := L9 :: L8 :: L6 :: L5 :: L3 :: L2 :: L1 :: S0) (ns := [0, 1, 2, 3, 4, 6, 8, 15, 16, 17, 26]) h10_1 a8 ax10_1 h10_2 a9 ax10_2 m3_10 (by decide) f10 (fun y n H' Dn' mn ex x' f' nx rt => ?_) fun y4 y5 H' x' f' => ?_
  · have n27 : n < 27 := by
      have : ∀ z ∈ ([0, 1, 2, 3, 4, 6, 8, 15, 16, 17, 26] : List Nat), z < 27 := by decide
      exact this n mn
    have m0' := m0_10.mono (x'.off f10.mem)
    refine q_ifE (b := !true || false) (σ := [some v0, some (.ref L8), some (.ref L9), some v10, some (.ref y), some (.int (n : Nat))]) (S := L9 :: L8 :: L6 :: L5 :: L3 :: L2 :: L1 :: S0) (et_orE (et_notE (et_valE (K := K) (ev_is (i := 4) rfl ex.i n27 (ev_var (i := 5) rfl (.int _))))) fun _ => et_testE (K := K) ((ev_neS (ev_reprE (ev_xgV (i := 4) rfl ex (List.mem_singleton_self _)) ht) (ev_reprE (ev_var (i := 0) rfl m0') ht)).imp fun _ z => by rw [z, decide_eq_true rfl]; rfl)) f' (Same.refl _) (fun H2 x2 f2 z => nomatch z) (fun H2 x2 f2 _ => ?_)
    exact nx H2 x2 f2
  · dsimp only
    refine q_retE (K := K) (d := .bool true) ev_b f' (Same.refl _) fun u H2 x2 mu => ?_
    cases mu
    exact k _ _ H2 ((z10.trans x').trans x2) (.bl _) rfl
theorem ok_l_places_right {f : Addr} {fd : FuncData} (F : Fun K "_law_places_right" "_law_places_right" s_l_places_right f fd) (T : Txt K mg c) (F_l_is : FIs18 P w K mg base (CL c)) : FnG P w K mg base CX0 3 f fd ["_law_thing"] (spG K (fun ds => ∃ d, ds = [d] ∧ Tame d) fun _ r => r = .bool true) := by
  refine fun_okG F sc_l_places_right (fun vs H Q E h => spG_len (n := 1) (fun ds ⟨_, e, _⟩ => by rw [e]; rfl) h) (fun cdv A outer s H vs Q E hg hr h => ?_)
  obtain ⟨a, S0, ds, f0, m, ⟨d, rfl, ht⟩, k⟩ := h
  obtain ⟨v0, rfl, m0⟩ := DA.one m
  refine ⟨_, (pss_cons (ps_set (i := 1) sc_l_places_right.nd rfl (by first | exact Or.inl rfl | exact Or.inr rfl) (pe_lst (pa_cons (pe_mkX (v_InvalidFields T) (by decide) (hr.mono (by decide)) (by rfl) (pa_cons (pv 0) pa_nil)) (pa_cons (pe_mkX (v_InvalidEquations T) (by decide) (hr.mono (by decide)) (by rfl) (pa_cons (pv 0) pa_nil)) (pa_cons (pe_mkX (v_InvalidSettings T) (by decide) (hr.mono (by decide)) (by rfl) (pa_cons (pv 0) pa_nil)) (pa_cons (pe_mkX (v_InvalidPairs T) (by decide) (hr.mono (by decide)) (by rfl) (pa_cons (pv 0) pa_nil)) pa_nil))))))
    (pss_cons (ps_set (i := 1) sc_l_places_right.nd rfl (by first | exact Or.inl rfl | exact Or.inr rfl) (pe_op (kAdd (K := K)) (pv 1) (pe_lst (pa_cons (pe_mkX (v_InvalidWishes T) (by decide) (hr.mono (by decide)) (by rfl) (pa_cons (pv 0) pa_nil)) (pa_cons (pe_mkX (v_InvalidNames T) (by decide) (hr.mono (by decide)) (by rfl) (pa_cons (pv 0) pa_nil)) (pa_cons (pe_mkX (v_OtherSheet T) (by decide) (hr.mono (by decide)) (by rfl) (pa_cons (pv 0) pa_nil)) pa_nil))))))
    (pss_cons (ps_set (i := 2) sc_l_places_right.nd rfl (by first | exact Or.inl rfl | exact Or.inr rfl) (pe_lst (pa_cons (pe_mkXK (vk_InvalidFields T) (hr.mono (by decide)) (by rfl) (pk_cons (pv 0) pk_nil)) (pa_cons (pe_mkXK (vk_InvalidEquations T) (hr.mono (by decide)) (by rfl) (pk_cons (pv 0) pk_nil)) (pa_cons (pe_mkXK (vk_InvalidSettings T) (hr.mono (by decide)) (by rfl) (pk_cons (pv 0) pk_nil)) pa_nil)))))
    (pss_cons (ps_set (i := 2) sc_l_places_right.nd rfl (by first | exact Or.inl rfl | exact Or.inr rfl) (pe_op (kAdd (K := K)) (pv 2) (pe_lst (pa_cons (pe_mkXK (vk_InvalidPairs T) (hr.mono (by decide)) (by rfl) (pk_cons (pv 0) pk_nil)) (pa_cons (pe_mkXK (vk_InvalidWishes T) (hr.mono (by decide)) (by rfl) (pk_cons (pv 0) pk_nil)) (pa_cons (pe_mkXK (vk_InvalidNames T) (hr.mono (by decide)) (by rfl) (pk_cons (pv 0) pk_nil)) pa_nil))))))
    (pss_cons (ps_expr (pe_bmK (K := K) PySem.F.plainAttrs_list PySem.F.slot_list_append PySem.F.type_list_append mt_append (pv 2) (pa_cons (pe_mkXK (vk_OtherSheet T) (hr.mono (by decide)) (by rfl) (pk_cons (pv 0) pk_nil)) pa_nil)))
    (pss_cons (ps_set (i := 3) sc_l_places_right.nd rfl (by first | exact Or.inl rfl | exact Or.inr rfl) (pe_lst (pa_cons pe_int (pa_cons pe_int (pa_cons pe_int (pa_cons pe_int (pa_cons pe_int (pa_cons pe_int (pa_cons pe_int pa_nil)))))))))
    (pss_cons (ps_for PassesOwn.never rfl (pi_list (pe_op (kAdd (K := K)) (pe_listZipR (K := K) rfl rfl (by rfl) T.b_list (by rfl) T.b_zip (pv 1) (pv 3)) (pe_listZipR (K := K) rfl rfl (by rfl) T.b_list (by rfl) T.b_zip (pv 2) (pv 3)))) (pg_tupK (K := K) (n := 2) (by rfl) (by rfl) (pgs_cons (pg_name (i := 4) sc_l_places_right.nd rfl (by first | exact Or.inl rfl | exact Or.inr rfl)) (pgs_cons (pg_name (i := 5) sc_l_places_right.nd rfl (by first | exact Or.inl rfl | exact Or.inr rfl)) pgs_nil)))
    (pss_one (ps_if (PW.pt (pw_or (pt_not (pt_val (pe_fn F_l_is hg (hr.mono (by decide)) (by rfl) pass0 (pa_cons (pv 4) (pa_cons (pv 5) pa_nil))))) (pw_or1 (pt_cmpR (kNe (K := K) hr.units) (pe_callB (kRepr (K := K) hg hr.units) (by rfl) T.b_repr (by decide +kernel) (pa_cons (pe_xgV (K := K) rfl (pv 4)) pa_nil)) (pe_callB (kRepr (K := K) hg hr.units) (by rfl) T.b_repr (by decide +kernel) (pa_cons (pv 0) pa_nil)) (nomark _)))))
    (pss_one (ps_ret pe_bl))
    pss_nil)))
    (pss_one (ps_ret pe_bl))))))))), ?_⟩
  have x0 : Ext a H H := Ext.refl
  refine q_lstX (K := K) (cs := CL c) (f := "index") (d := d) (S := S0) (G := off (S0) H) (ns := [5, 7, 9, 10]) (j := 1) (σ := [some v0, none, none, none, none, none]) (evx_cons (evx_p (cs := CL c) (n := 5) (ev_var (i := 0) rfl m0) rfl (by decide) T.xc_InvalidFields.is T.xc_InvalidFields.fl T.nf_InvalidFields_index) (evx_cons (evx_p (cs := CL c) (n := 7) (ev_var (i := 0) rfl m0) rfl (by decide) T.xc_InvalidEquations.is T.xc_InvalidEquations.fl T.nf_InvalidEquations_index) (evx_cons (evx_p (cs := CL c) (n := 9) (ev_var (i := 0) rfl m0) rfl (by decide) T.xc_InvalidSettings.is T.xc_InvalidSettings.fl T.nf_InvalidSettings_index) (evx_cons (evx_p (cs := CL c) (n := 10) (ev_var (i := 0) rfl m0) rfl (by decide) T.xc_InvalidPairs.is T.xc_InvalidPairs.fl T.nf_InvalidPairs_index) evx_nil)))) (by decide) f0 (Same.refl _) fun L1 vs1 H1 x1 f1 n1 a1 h1 ax1 => ?_
  have s1 : Same (off (S0) H) (off (L1 :: S0) H1) := same_off_push n1 (x1.off f0.mem)
  have n1 := x0.fresh n1 a1
  have z1 := x0.trans x1
  have m0_1 := m0.mono s1
  dsimp only
  refine q_catX (K := K) (cs := CL c) (f := "index") (d := d) (S := L1 :: S0) (G := off (L1 :: S0) H1) (ns := [5, 7, 9, 10]) (ms := [11, 12, 20]) (i := 1) (j := 1) (σ := [some v0, some (.ref L1), none, none, none, none]) rfl h1 a1 ax1 (evx_cons (evx_p (cs := CL c) (n := 11) (ev_var (i := 0) rfl m0_1) rfl (by decide) T.xc_InvalidWishes.is T.xc_InvalidWishes.fl T.nf_InvalidWishes_index) (evx_cons (evx_p (cs := CL c) (n := 12) (ev_var (i := 0) rfl m0_1) rfl (by decide) T.xc_InvalidNames.is T.xc_InvalidNames.fl T.nf_InvalidNames_index) (evx_cons (evx_p (cs := CL c) (n := 20) (ev_var (i := 0) rfl m0_1) rfl (by decide) T.xc_OtherSheet.is T.xc_OtherSheet.fl T.nf_OtherSheet_index) evx_nil))) (by decide) (by decide) f1 (Same.refl _) fun L2 vs2 H2 x2 f2 n2 a2 h2 ax2 => ?_
  have s2 : Same (off (L1 :: S0) H1) (off (L2 :: L1 :: S0) H2) := same_off_push n2 (x2.off f1.mem)
  have n2 := z1.fresh n2 a2
  have z2 := z1.trans x2
  have m0_2 := m0_1.mono s2
  dsimp only
  refine q_lstX (K := K) (cs := CL c) (f := "index") (d := d) (S := L2 :: L1 :: S0) (G := off (L2 :: L1 :: S0) H2) (ns := [5, 7, 9]) (j := 2) (σ := [some v0, some (.ref L2), none, none, none, none]) (evx_cons (evx_k (cs := CL c) (n := 5) (ev_var (i := 0) rfl m0_2) rfl (by decide) T.xc_InvalidFields.is T.xc_InvalidFields.fl T.nf_InvalidFields_index) (evx_cons (evx_k (cs := CL c) (n := 7) (ev_var (i := 0) rfl m0_2) rfl (by decide) T.xc_InvalidEquations.is T.xc_InvalidEquations.fl T.nf_InvalidEquations_index) (evx_cons (evx_k (cs := CL c) (n := 9) (ev_var (i := 0) rfl m0_2) rfl (by decide) T.xc_InvalidSettings.is T.xc_InvalidSettings.fl T.nf_InvalidSettings_index) evx_nil))) (by decide) f2 (Same.refl _) fun L3 vs3 H3 x3 f3 n3 a3 h3 ax3 => ?_
  have s3 : Same (off (L2 :: L1 :: S0) H2) (off (L3 :: L2 :: L1 :: S0) H3) := same_off_push n3 (x3.off f2.mem)
  have n3 := z2.fresh n3 a3
  have z3 := z2.trans x3
  have h3_1 := x3.keep _ _ a2 h2
  have ax3_1 := ax2.mono s3
  have m0_3 := m0_2.mono s3
  dsimp only
  refine q_catX (K := K) (cs := CL c) (f := "index") (d := d) (S := L3 :: L2 :: L1 :: S0) (G := off (L3 :: L2 :: L1 :: S0) H3) (ns := [5, 7, 9]) (ms := [10, 11, 12]) (i := 2) (j := 2) (σ := [some v0, some (.ref L2), some (.ref L3), none, none, none]) rfl h3 a3 ax3 (evx_cons (evx_k (cs := CL c) (n := 10) (ev_var (i := 0) rfl m0_3) rfl (by decide) T.xc_InvalidPairs.is T.xc_InvalidPairs.fl T.nf_InvalidPairs_index) (evx_cons (evx_k (cs := CL c) (n := 11) (ev_var (i := 0) rfl m0_3) rfl (by decide) T.xc_InvalidWishes.is T.xc_InvalidWishes.fl T.nf_InvalidWishes_index) (evx_cons (evx_k (cs := CL c) (n := 12) (ev_var (i := 0) rfl m0_3) rfl (by decide) T.xc_InvalidNames.is T.xc_InvalidNames.fl T.nf_InvalidNames_index) evx_nil))) (by decide) (by decide) f3 (Same.refl _) fun L4 vs4 H4 x4 f4 n4 a4 h4 ax4 => ?_
  have s4 : Same (off (L3 :: L2 :: L1 :: S0) H3) (off (L4 :: L3 :: L2 :: L1 :: S0) H4) := same_off_push n4 (x4.off f3.mem)
  have n4 := z3.fresh n4 a4
  have z4 := z3.trans x4
  have h4_1 := x4.keep _ _ a2 h3_1
  have ax4_1 := ax3_1.mono s4
  have m0_4 := m0_3.mono s4
  dsimp only
  refine q_appX (K := K) (cs := CL c) (f := "index") (d := d) (S := L4 :: L3 :: L2 :: L1 :: S0) (G := off (L4 :: L3 :: L2 :: L1 :: S0) H4) (ns := [5, 7, 9, 10, 11, 12]) (i := 2) (σ := [some v0, some (.ref L2), some (.ref L4), none, none, none]) rfl h4 a4 (by simp) ax4 (evx_k (cs := CL c) (n := 20) (ev_var (i := 0) rfl m0_4) rfl (by decide) T.xc_OtherSheet.is T.xc_OtherSheet.fl T.nf_OtherSheet_index) (by decide) f4 (Same.refl _) fun vs5 H5 f5 s5 keep5 z5 h5 ax5 => ?_
  have z5 := z5 _ z4 n4
  have h5_1 := keep5 _ _ (fun z => by rw [z] at h4_1; rw [h4] at h4_1; exact absurd (Option.some.inj h4_1) (by intro z; injection z with z; have := congrArg List.length z; rw [ax4.len, ax4_1.len] at this; exact absurd this (by decide))) a2 h4_1
  have ax5_1 := ax4_1.mono s5
  have m0_5 := m0_4.mono s5
  dsimp only
  refine q_setE (K := K) (S := L4 :: L3 :: L2 :: L1 :: S0) (G := off (L4 :: L3 :: L2 :: L1 :: S0) H5) (i := 3) (σ := [some v0, some (.ref L2), some (.ref L4), none, none, none]) (ev_lstE (ea_eq ev_i (ea_eq ev_i (ea_eq ev_i (ea_eq ev_i (ea_eq ev_i (ea_eq ev_i (ea_eq ev_i ea_nil))))))) (by simp)) f5 (Same.refl _) fun v6 H6 x6 f6 m3_6 => ?_
  have s6 := x6.off f5.mem
  have z6 := z5.trans x6
  have h6_1 := x6.keep _ _ a2 h5_1
  have ax6_1 := ax5_1.mono s6
  have h6_2 := x6.keep _ _ a4 h5
  have ax6_2 := ax5.mono s6
  have m0_6 := m0_5.mono s6
  dsimp only
  refine q_forXX (K := K) (cs := CL c) (f := "index") (d := d) (S := L4 :: L3 :: L2 :: L1 :: S0) (ns := [5, 7, 9, 10, 11, 12, 20]) h6_1 a2 ax6_1 h6_2 a4 ax6_2 m3_6 (by decide) f6 (fun y n H' Dn' mn ex x' f' nx rt => ?_) fun y4 y5 H' x' f' => ?_
  · have n27 : n < 27 := by
      have : ∀ z ∈ ([5, 7, 9, 10, 11, 12, 20] : List Nat), z < 27 := by decide
      exact this n mn
    have m0' := m0_6.mono (x'.off f6.mem)
    refine q_ifE (b := !true || false) (σ := [some v0, some (.ref L2), some (.ref L4), some v6, some (.ref y), some (.int (n : Nat))]) (S := L4 :: L3 :: L2 :: L1 :: S0) (et_orE (et_notE (et_valE (K := K) (ev_is (i := 4) rfl ex.i n27 (ev_var (i := 5) rfl (.int _))))) fun _ => et_testE (K := K) ((ev_neS (ev_reprE (ev_xgV (i := 4) rfl ex (List.mem_singleton_self _)) ht) (ev_reprE (ev_var (i := 0) rfl m0') ht)).imp fun _ z => by rw [z, decide_eq_true rfl]; rfl)) f' (Same.refl _) (fun H2 x2 f2 z => nomatch z) (fun H2 x2 f2 _ => ?_)
    exact nx H2 x2 f2
  · dsimp only
    refine q_retE (K := K) (d := .bool true) ev_b f' (Same.refl _) fun u H2 x2 mu => ?_
    cases mu
    exact k _ _ H2 ((z6.trans x').trans x2) (.bl _) rfl
end
end K18
--EXV InvalidName InvalidNumber InvalidLevel InvalidClock InvalidCount InvalidFields InvalidEquation InvalidEquations InvalidSetting InvalidSettings InvalidPairs InvalidWishes InvalidNames InvalidText InvalidCommand UnknownField UnknownReplica UnknownMessage NotFree NotDetermined OtherSheet Refused Impossible RunFailed NothingToTakeBack TooMany NoQuotient LastheldError MissingError StateError LimitError
set_option Elab.async false
set_option linter.all false
set_option maxRecDepth 100000
set_option maxHeartbeats 1000000
set_option exponentiation.threshold 20000
namespace K18
open PySem PySem.Spec L2 LK
open PyProof.Rows hiding St
local macro_rules | `(tactic| walk_at "ext") => `(tactic| first | exact Ext.refl | assumption | (refine Ext.trans ?_ (by assumption); walk_at "ext"))
local macro_rules | `(tactic| walk_at "sm") => `(tactic| first | exact Same.refl _ | assumption | (refine Ext.off ?_ (Fr.mem (by assumption)); walk_at "ext"))
local macro_rules | `(tactic| walk_at "dm") => `(tactic| first | assumption | exact .int _ | exact .bl _ | exact .str _ | exact .non | (refine D.mono (by assumption) ?_; walk_at "sm"))
local macro_rules | `(tactic| walk_at "sd") => `(tactic| first | assumption | rfl | decide | omega | (show _ ≤ 1000; decide))
local macro_rules | `(tactic| walk_at "ea") => `(tactic| first | exact ea_nil | (refine ea_eq ?_ ?_; (walk_at "ev"); (walk_at "ea")))
local macro_rules | `(tactic| walk_at "et") => `(tactic| first
  | (refine et_valE ?_; walk_at "ev") | (refine et_testE ?_; walk_at "ev") | (refine et_notE ?_; walk_at "et")
  | (refine et_andE ?_ (fun _ => ?_); (walk_at "et"); (walk_at "et")) | (refine et_orE ?_ (fun _ => ?_); (walk_at "et"); (walk_at "et")))
local macro_rules | `(tactic| walk_at "ev") => `(tactic| first
  | exact ev_i | exact ev_s | exact ev_b | exact ev_n | exact ev_dnew
  | (refine ev_var rfl ?_; walk_at "dm")
  | (refine ev_tupE ?_ ?_; (walk_at "ea"); (walk_at "sd")) | (refine ev_lstE ?_ ?_; (walk_at "ea"); (walk_at "sd"))
  | (refine ev_negE ?_; walk_at "ev")
  | (refine ev_isiE ?_ ?_; (walk_at "ev"); (walk_at "sd"))
  | (refine ev_lenE ?_ ?_ ?_; (walk_at "ev"); (walk_at "sd"); (walk_at "sd"))
  | (refine ev_atL ?_ ?_ ?_; (walk_at "ev"); (walk_at "ev"); (walk_at "sd")) | (refine ev_atT ?_ ?_ ?_; (walk_at "ev"); (walk_at "ev"); (walk_at "sd"))
  | (refine ev_addE ?_ ?_; (walk_at "ev"); (walk_at "ev")) | (refine ev_cmpE ?_ ?_; (walk_at "ev"); (walk_at "ev")) | (refine ev_i0E ?_ ?_; (walk_at "ev"); (walk_at "ev"))
  | (refine ev_mulE ?_ ?_ ?_; (walk_at "ev"); (walk_at "ev"); (walk_at "sd"))
  | (refine ev_eqIE ?_ ?_; (walk_at "ev"); (walk_at "ev")) | (refine ev_neIE ?_ ?_; (walk_at "ev"); (walk_at "ev"))
  | (refine ev_andE ?_ (fun _ => ?_); (walk_at "ev"); (walk_at "ev")) | (refine ev_orE ?_ (fun _ => ?_); (walk_at "ev"); (walk_at "ev")) | (refine ev_notE ?_; walk_at "ev")
  | (refine ev_fn ?_ ?_; (walk_at "ea"); (walk_at "sd")))
local macro_rules | `(tactic| walk_at "lit") => `(tactic| first | exact ev_i | exact ev_s | exact ev_b | exact ev_n | exact ev_dnew | (refine ev_negE ?_; walk_at "lit") | (refine ev_tupE ?_ (by decide); walk_at "lits") | (refine ev_lstE ?_ (by decide); walk_at "lits") | (refine ev_powE ?_ ?_ ⟨by decide, by decide, by decide⟩ <;> walk_at "lit"))
local macro_rules | `(tactic| walk_at "lits") => `(tactic| first | exact ea_nil | (refine ea_eq ?_ ?_; (walk_at "lit"); (walk_at "lits")))
section
variable {P : Program} {w : World} {K : PySem.W.Frag} {mg : Str → Option Value} {c : Cls} {base : Heap} {a : Addr} {G : Hp} {S : List Addr} {H : Hp}
theorem ok_l_others_right {f : Addr} {fd : FuncData} (F : Fun K "_law_others_right" "_law_others_right" s_l_others_right f fd) (T : Txt K mg c) (F_l_is : FIs18 P w K mg base (CL c)) : FnG P w K mg base CX0 3 f fd ["_law_thing", "_law_mate", "_law_third"] (spG K (fun ds => ∃ d1 d2 d3, ds = [d1, d2, d3] ∧ d1 ∈ odd29 ∧ d2 ∈ odd29 ∧ d3 ∈ odd29) fun _ r => r = .bool true) := by
  refine fun_okG F sc_l_others_right (fun vs H Q E h => spG_len (n := 3) (fun ds ⟨_, _, _, e, _⟩ => by rw [e]; rfl) h) (fun cdv A outer s H vs Q E hg hr h => ?_)
  obtain ⟨a, S, ds, f0, m, ⟨d1, d2, d3, rfl, o1, o2, o3⟩, k⟩ := h
  obtain ⟨v0, v1, v2, rfl, m0, m1, m2⟩ := DA.three m
  have t0 := (odd29_sz o1).tame
  have z2 : Tame (.list [d1, d2]) := (sz_list (n := 100) (m := 300) (k := 3) (ds := [d1, d2]) (fun d h => by rcases List.mem_cons.mp h with e | h; exact e ▸ odd29_sz o1; exact (List.mem_singleton.mp h) ▸ odd29_sz o2) (by show 2 * 101 ≤ 300; decide)).tame
  have z3 : Tame (.list [d1, d2, d3]) := (sz_list (n := 100) (m := 400) (k := 3) (ds := [d1, d2, d3]) (fun d h => by rcases List.mem_cons.mp h with e | h; exact e ▸ odd29_sz o1; rcases List.mem_cons.mp h with e | h; exact e ▸ odd29_sz o2; exact (List.mem_singleton.mp h) ▸ odd29_sz o3) (by show 3 * 101 ≤ 400; decide)).tame
  refine ⟨_, (pss_cons (ps_for PassesOwn.never rfl (pi_seq (pe_tup (pa_cons (pe_mkX (v_InvalidText T) (by decide) (hr.mono (by decide)) (by rfl) (pa_cons (pv 0) pa_nil)) (pa_cons (pe_mkXK (vk_InvalidText T) (hr.mono (by decide)) (by rfl) (pk_cons (pv 0) pk_nil)) pa_nil)))) (pg_name (i := 3) sc_l_others_right.nd rfl (by first | exact Or.inl rfl | exact Or.inr rfl))
    (pss_one (ps_if (PW.pt (pw_or (pt_not (pt_val (pe_fn F_l_is hg (hr.mono (by decide)) (by rfl) pass0 (pa_cons (pv 3) (pa_cons pe_int pa_nil))))) (pw_or1 (pt_cmpR (kNe (K := K) hr.units) (pe_callB (kRepr (K := K) hg hr.units) (by rfl) T.b_repr (by decide +kernel) (pa_cons (pe_xgV (K := K) rfl (pv 3)) pa_nil)) (pe_callB (kRepr (K := K) hg hr.units) (by rfl) T.b_repr (by decide +kernel) (pa_cons (pv 0) pa_nil)) (nomark _)))))
    (pss_one (ps_ret pe_bl))
    pss_nil)))
    (pss_cons (ps_for PassesOwn.never rfl (pi_seq (pe_tup (pa_cons (pe_mkX (v_InvalidCommand T) (by decide) (hr.mono (by decide)) (by rfl) (pa_cons (pv 0) pa_nil)) (pa_cons (pe_mkXK (vk_InvalidCommand T) (hr.mono (by decide)) (by rfl) (pk_cons (pv 0) pk_nil)) pa_nil)))) (pg_name (i := 3) sc_l_others_right.nd rfl (by first | exact Or.inl rfl | exact Or.inr rfl))
    (pss_one (ps_if (PW.pt (pw_or (pt_not (pt_val (pe_fn F_l_is hg (hr.mono (by decide)) (by rfl) pass0 (pa_cons (pv 3) (pa_cons pe_int pa_nil))))) (pw_or1 (pt_cmpR (kNe (K := K) hr.units) (pe_callB (kRepr (K := K) hg hr.units) (by rfl) T.b_repr (by decide +kernel) (pa_cons (pe_xgV (K := K) rfl (pv 3)) pa_nil)) (pe_callB (kRepr (K := K) hg hr.units) (by rfl) T.b_repr (by decide +kernel) (pa_cons (pv 0) pa_nil)) (nomark _)))))
    (pss_one (ps_ret pe_bl))
    pss_nil)))
    (pss_cons (ps_for PassesOwn.never rfl (pi_seq (pe_tup (pa_cons (pe_mkX (v_NotFree T) (by decide) (hr.mono (by decide)) (by rfl) (pa_cons (pv 0) pa_nil)) (pa_cons (pe_mkXK (vk_NotFree T) (hr.mono (by decide)) (by rfl) (pk_cons (pv 0) pk_nil)) pa_nil)))) (pg_name (i := 3) sc_l_others_right.nd rfl (by first | exact Or.inl rfl | exact Or.inr rfl))
    (pss_one (ps_if (PW.pt (pw_or (pt_not (pt_val (pe_fn F_l_is hg (hr.mono (by decide)) (by rfl) pass0 (pa_cons (pv 3) (pa_cons pe_int pa_nil))))) (pw_or1 (pt_cmpR (kNe (K := K) hr.units) (pe_callB (kRepr (K := K) hg hr.units) (by rfl) T.b_repr (by decide +kernel) (pa_cons (pe_xgV (K := K) rfl (pv 3)) pa_nil)) (pe_callB (kRepr (K := K) hg hr.units) (by rfl) T.b_repr (by decide +kernel) (pa_cons (pv 0) pa_nil)) (nomark _)))))
    (pss_one (ps_ret pe_bl))
    pss_nil)))
    (pss_cons (ps_for PassesOwn.never rfl (pi_seq (pe_tup (pa_cons (pe_mkX (v_NotDetermined T) (by decide) (hr.mono (by decide)) (by rfl) (pa_cons (pv 0) pa_nil)) (pa_cons (pe_mkXK (vk_NotDetermined T) (hr.mono (by decide)) (by rfl) (pk_cons (pv 0) pk_nil)) pa_nil)))) (pg_name (i := 3) sc_l_others_right.nd rfl (by first | exact Or.inl rfl | exact Or.inr rfl))
    (pss_one (ps_if (PW.pt (pw_or (pt_not (pt_val (pe_fn F_l_is hg (hr.mono (by decide)) (by rfl) pass0 (pa_cons (pv 3) (pa_cons pe_int pa_nil))))) (pw_or1 (pt_cmpR (kNe (K := K) hr.units) (pe_callB (kRepr (K := K) hg hr.units) (by rfl) T.b_repr (by decide +kernel) (pa_cons (pe_xgV (K := K) rfl (pv 3)) pa_nil)) (pe_callB (kRepr (K := K) hg hr.units) (by rfl) T.b_repr (by decide +kernel) (pa_cons (pv 0) pa_nil)) (nomark _)))))
    (pss_one (ps_ret pe_bl))
    pss_nil)))
    (pss_cons (ps_for PassesOwn.never rfl (pi_seq (pe_tup (pa_cons (pe_mkX (v_Refused T) (by decide) (hr.mono (by decide)) (by rfl) (pa_cons (pv 0) (pa_cons (pv 1) (pa_cons (pv 2) pa_nil)))) (pa_cons (pe_mkXK (vk_Refused T) (hr.mono (by decide)) (by rfl) (pk_cons (pv 2) (pk_cons (pv 0) (pk_cons (pv 1) pk_nil)))) pa_nil)))) (pg_name (i := 3) sc_l_others_right.nd rfl (by first | exact Or.inl rfl | exact Or.inr rfl))
    (pss_one (ps_if (PW.pt (pw_or (pt_not (pt_val (pe_fn F_l_is hg (hr.mono (by decide)) (by rfl) pass0 (pa_cons (pv 3) (pa_cons pe_int pa_nil))))) (pw_or1 (pt_cmpR (kNe (K := K) hr.units) (pe_callB (kRepr (K := K) hg hr.units) (by rfl) T.b_repr (by decide +kernel) (pa_cons (pe_lst (pa_cons (pe_xgV (K := K) rfl (pv 3)) (pa_cons (pe_xgV (K := K) rfl (pv 3)) (pa_cons (pe_xgV (K := K) rfl (pv 3)) pa_nil)))) pa_nil)) (pe_callB (kRepr (K := K) hg hr.units) (by rfl) T.b_repr (by decide +kernel) (pa_cons (pe_lst (pa_cons (pv 0) (pa_cons (pv 1) (pa_cons (pv 2) pa_nil)))) pa_nil)) (nomark _)))))
    (pss_one (ps_ret pe_bl))
    pss_nil)))
    (pss_cons (ps_for PassesOwn.never rfl (pi_seq (pe_tup (pa_cons (pe_mkX (v_Impossible T) (by decide) (hr.mono (by decide)) (by rfl) (pa_cons (pv 0) pa_nil)) (pa_cons (pe_mkXK (vk_Impossible T) (hr.mono (by decide)) (by rfl) (pk_cons (pv 0) pk_nil)) pa_nil)))) (pg_name (i := 3) sc_l_others_right.nd rfl (by first | exact Or.inl rfl | exact Or.inr rfl))
    (pss_one (ps_if (PW.pt (pw_or (pt_not (pt_val (pe_fn F_l_is hg (hr.mono (by decide)) (by rfl) pass0 (pa_cons (pv 3) (pa_cons pe_int pa_nil))))) (pw_or1 (pt_cmpR (kNe (K := K) hr.units) (pe_callB (kRepr (K := K) hg hr.units) (by rfl) T.b_repr (by decide +kernel) (pa_cons (pe_xgV (K := K) rfl (pv 3)) pa_nil)) (pe_callB (kRepr (K := K) hg hr.units) (by rfl) T.b_repr (by decide +kernel) (pa_cons (pv 0) pa_nil)) (nomark _)))))
    (pss_one (ps_ret pe_bl))
    pss_nil)))
    (pss_cons (ps_for PassesOwn.never rfl (pi_seq (pe_tup (pa_cons (pe_mkX (v_RunFailed T) (by decide) (hr.mono (by decide)) (by rfl) (pa_cons (pv 0) (pa_cons (pv 1) pa_nil))) (pa_cons (pe_mkXK (vk_RunFailed T) (hr.mono (by decide)) (by rfl) (pk_cons (pv 1) (pk_cons (pv 0) pk_nil))) pa_nil)))) (pg_name (i := 3) sc_l_others_right.nd rfl (by first | exact Or.inl rfl | exact Or.inr rfl))
    (pss_one (ps_if (PW.pt (pw_or (pt_not (pt_val (pe_fn F_l_is hg (hr.mono (by decide)) (by rfl) pass0 (pa_cons (pv 3) (pa_cons pe_int pa_nil))))) (pw_or1 (pt_cmpR (kNe (K := K) hr.units) (pe_callB (kRepr (K := K) hg hr.units) (by rfl) T.b_repr (by decide +kernel) (pa_cons (pe_lst (pa_cons (pe_xgV (K := K) rfl (pv 3)) (pa_cons (pe_xgV (K := K) rfl (pv 3)) pa_nil))) pa_nil)) (pe_callB (kRepr (K := K) hg hr.units) (by rfl) T.b_repr (by decide +kernel) (pa_cons (pe_lst (pa_cons (pv 0) (pa_cons (pv 1) pa_nil))) pa_nil)) (nomark _)))))
    (pss_one (ps_ret pe_bl))
    pss_nil)))
    (pss_cons (ps_for PassesOwn.never rfl (pi_seq (pe_tup (pa_cons (pe_mkX (v_TooMany T) (by decide) (hr.mono (by decide)) (by rfl) (pa_cons (pv 0) (pa_cons (pv 1) pa_nil))) (pa_cons (pe_mkXK (vk_TooMany T) (hr.mono (by decide)) (by rfl) (pk_cons (pv 1) (pk_cons (pv 0) pk_nil))) pa_nil)))) (pg_name (i := 3) sc_l_others_right.nd rfl (by first | exact Or.inl rfl | exact Or.inr rfl))
    (pss_one (ps_if (PW.pt (pw_or (pt_not (pt_val (pe_fn F_l_is hg (hr.mono (by decide)) (by rfl) pass0 (pa_cons (pv 3) (pa_cons pe_int pa_nil))))) (pw_or1 (pt_cmpR (kNe (K := K) hr.units) (pe_callB (kRepr (K := K) hg hr.units) (by rfl) T.b_repr (by decide +kernel) (pa_cons (pe_lst (pa_cons (pe_xgV (K := K) rfl (pv 3)) (pa_cons (pe_xgV (K := K) rfl (pv 3)) pa_nil))) pa_nil)) (pe_callB (kRepr (K := K) hg hr.units) (by rfl) T.b_repr (by decide +kernel) (pa_cons (pe_lst (pa_cons (pv 0) (pa_cons (pv 1) pa_nil))) pa_nil)) (nomark _)))))
    (pss_one (ps_ret pe_bl))
    pss_nil)))
    (pss_one (ps_ret (pe_and (pe_fn F_l_is hg (hr.mono (by decide)) (by rfl) pass0 (pa_cons (pe_excV0 T.xn_NothingToTakeBack.2.2.1 T.xn_NothingToTakeBack.2.2.2 T.xn_NothingToTakeBack.1 T.xn_NothingToTakeBack.2.1.2 (by rfl)) (pa_cons pe_int pa_nil))) (pe_one (pe_fn F_l_is hg (hr.mono (by decide)) (by rfl) pass0 (pa_cons (pe_excV1 T.xn_NothingToTakeBack.2.2.1 T.xn_NothingToTakeBack.2.2.2 T.xn_NothingToTakeBack.1 T.xn_NothingToTakeBack.2.1.2 (by rfl) pe_str) (pa_cons pe_int pa_nil))))))))))))))), ?_⟩
  have x0 : Ext a H H := Ext.refl
  generalize (none : Option V) = y0
  refine q_forT2 (K := K) (cs := CL c) (n := 13) (fs := [("line", d1)]) (S := S) (G := off S H) (evm_p (cs := CL c) (n := 13) (nm := 1) (ds := [d1]) (ns := ["line"]) (ea_eq (ev_var (i := 0) rfl m0) ea_nil) rfl rfl (by decide) T.xc_InvalidText.is T.xc_InvalidText.fl (fun f' m => by rcases List.mem_cons.mp m with e | m; exact e ▸ T.nf_InvalidText_line; exact nomatch m) (by decide) rfl) (evm_k (cs := CL c) (n := 13) (nm := 1) (ds := [d1]) (ns := ["line"]) (ea_eq (ev_var (i := 0) rfl m0) ea_nil) rfl rfl (by decide) T.xc_InvalidText.is T.xc_InvalidText.fl (fun f' m => by rcases List.mem_cons.mp m with e | m; exact e ▸ T.nf_InvalidText_line; exact nomatch m) (by decide) rfl) f0 (Same.refl _) (fun y H' Dn' ex x' f' nx rt => ?_) fun y1 H1 x1 f1 => ?_
  · have m0' := m0.mono (x'.off f0.mem)
    refine q_ifE (b := !true || false) (σ := [some v0, some v1, some v2, some (.ref y)]) (S := S) (et_orE (et_notE (et_valE (K := K) (ev_is (i := 3) rfl ex.i (by decide) ev_i))) fun _ => et_testE (K := K) ((ev_neS (ev_reprE (ev_xgV (i := 3) rfl ex (by simp)) t0) (ev_reprE (ev_var (i := 0) rfl m0') t0)).imp fun _ z => by rw [z, decide_eq_true rfl]; rfl)) f' (Same.refl _) (fun H2 x2 f2 z => nomatch z) (fun H2 x2 f2 _ => ?_)
    exact nx H2 x2 f2
  dsimp only
  have m0_1 := m0.mono (x1.off f0.mem)
  have m1_1 := m1.mono (x1.off f0.mem)
  have m2_1 := m2.mono (x1.off f0.mem)
  have X1 := x0.trans x1
  refine q_forT2 (K := K) (cs := CL c) (n := 14) (fs := [("command", d1)]) (S := S) (G := off S H1) (evm_p (cs := CL c) (n := 14) (nm := 1) (ds := [d1]) (ns := ["command"]) (ea_eq (ev_var (i := 0) rfl m0_1) ea_nil) rfl rfl (by decide) T.xc_InvalidCommand.is T.xc_InvalidCommand.fl (fun f' m => by rcases List.mem_cons.mp m with e | m; exact e ▸ T.nf_InvalidCommand_command; exact nomatch m) (by decide) rfl) (evm_k (cs := CL c) (n := 14) (nm := 1) (ds := [d1]) (ns := ["command"]) (ea_eq (ev_var (i := 0) rfl m0_1) ea_nil) rfl rfl (by decide) T.xc_InvalidCommand.is T.xc_InvalidCommand.fl (fun f' m => by rcases List.mem_cons.mp m with e | m; exact e ▸ T.nf_InvalidCommand_command; exact nomatch m) (by decide) rfl) f1 (Same.refl _) (fun y H' Dn' ex x' f' nx rt => ?_) fun y2 H2 x2 f2 => ?_
  · have m0' := m0_1.mono (x'.off f1.mem)
    refine q_ifE (b := !true || false) (σ := [some v0, some v1, some v2, some (.ref y)]) (S := S) (et_orE (et_notE (et_valE (K := K) (ev_is (i := 3) rfl ex.i (by decide) ev_i))) fun _ => et_testE (K := K) ((ev_neS (ev_reprE (ev_xgV (i := 3) rfl ex (by simp)) t0) (ev_reprE (ev_var (i := 0) rfl m0') t0)).imp fun _ z => by rw [z, decide_eq_true rfl]; rfl)) f' (Same.refl _) (fun H2 x2 f2 z => nomatch z) (fun H2 x2 f2 _ => ?_)
    exact nx H2 x2 f2
  dsimp only
  have m0_2 := m0_1.mono (x2.off f1.mem)
  have m1_2 := m1_1.mono (x2.off f1.mem)
  have m2_2 := m2_1.mono (x2.off f1.mem)
  have X2 := X1.trans x2
  refine q_forT2 (K := K) (cs := CL c) (n := 18) (fs := [("given", d1)]) (S := S) (G := off S H2) (evm_p (cs := CL c) (n := 18) (nm := 1) (ds := [d1]) (ns := ["given"]) (ea_eq (ev_var (i := 0) rfl m0_2) ea_nil) rfl rfl (by decide) T.xc_NotFree.is T.xc_NotFree.fl (fun f' m => by rcases List.mem_cons.mp m with e | m; exact e ▸ T.nf_NotFree_given; exact nomatch m) (by decide) rfl) (evm_k (cs := CL c) (n := 18) (nm := 1) (ds := [d1]) (ns := ["given"]) (ea_eq (ev_var (i := 0) rfl m0_2) ea_nil) rfl rfl (by decide) T.xc_NotFree.is T.xc_NotFree.fl (fun f' m => by rcases List.mem_cons.mp m with e | m; exact e ▸ T.nf_NotFree_given; exact nomatch m) (by decide) rfl) f2 (Same.refl _) (fun y H' Dn' ex x' f' nx rt => ?_) fun y3 H3 x3 f3 => ?_
  · have m0' := m0_2.mono (x'.off f2.mem)
    refine q_ifE (b := !true || false) (σ := [some v0, some v1, some v2, some (.ref y)]) (S := S) (et_orE (et_notE (et_valE (K := K) (ev_is (i := 3) rfl ex.i (by decide) ev_i))) fun _ => et_testE (K := K) ((ev_neS (ev_reprE (ev_xgV (i := 3) rfl ex (by simp)) t0) (ev_reprE (ev_var (i := 0) rfl m0') t0)).imp fun _ z => by rw [z, decide_eq_true rfl]; rfl)) f' (Same.refl _) (fun H2 x2 f2 z => nomatch z) (fun H2 x2 f2 _ => ?_)
    exact nx H2 x2 f2
  dsimp only
  have m0_3 := m0_2.mono (x3.off f2.mem)
  have m1_3 := m1_2.mono (x3.off f2.mem)
  have m2_3 := m2_2.mono (x3.off f2.mem)
  have X3 := X2.trans x3
  refine q_forT2 (K := K) (cs := CL c) (n := 19) (fs := [("field", d1)]) (S := S) (G := off S H3) (evm_p (cs := CL c) (n := 19) (nm := 1) (ds := [d1]) (ns := ["field"]) (ea_eq (ev_var (i := 0) rfl m0_3) ea_nil) rfl rfl (by decide) T.xc_NotDetermined.is T.xc_NotDetermined.fl (fun f' m => by rcases List.mem_cons.mp m with e | m; exact e ▸ T.nf_NotDetermined_field; exact nomatch m) (by decide) rfl) (evm_k (cs := CL c) (n := 19) (nm := 1) (ds := [d1]) (ns := ["field"]) (ea_eq (ev_var (i := 0) rfl m0_3) ea_nil) rfl rfl (by decide) T.xc_NotDetermined.is T.xc_NotDetermined.fl (fun f' m => by rcases List.mem_cons.mp m with e | m; exact e ▸ T.nf_NotDetermined_field; exact nomatch m) (by decide) rfl) f3 (Same.refl _) (fun y H' Dn' ex x' f' nx rt => ?_) fun y4 H4 x4 f4 => ?_
  · have m0' := m0_3.mono (x'.off f3.mem)
    refine q_ifE (b := !true || false) (σ := [some v0, some v1, some v2, some (.ref y)]) (S := S) (et_orE (et_notE (et_valE (K := K) (ev_is (i := 3) rfl ex.i (by decide) ev_i))) fun _ => et_testE (K := K) ((ev_neS (ev_reprE (ev_xgV (i := 3) rfl ex (by simp)) t0) (ev_reprE (ev_var (i := 0) rfl m0') t0)).imp fun _ z => by rw [z, decide_eq_true rfl]; rfl)) f' (Same.refl _) (fun H2 x2 f2 z => nomatch z) (fun H2 x2 f2 _ => ?_)
    exact nx H2 x2 f2
  dsimp only
  have m0_4 := m0_3.mono (x4.off f3.mem)
  have m1_4 := m1_3.mono (x4.off f3.mem)
  have m2_4 := m2_3.mono (x4.off f3.mem)
  have X4 := X3.trans x4
  refine q_forT2 (K := K) (cs := CL c) (n := 21) (fs := [("field", d1), ("level", d2), ("cause", d3)]) (S := S) (G := off S H4) (evm_p (cs := CL c) (n := 21) (nm := 3) (ds := [d1, d2, d3]) (ns := ["field", "level", "cause"]) (ea_eq (ev_var (i := 0) rfl m0_4) (ea_eq (ev_var (i := 1) rfl m1_4) (ea_eq (ev_var (i := 2) rfl m2_4) ea_nil))) rfl rfl (by decide) T.xc_Refused.is T.xc_Refused.fl (fun f' m => by rcases List.mem_cons.mp m with e | m; exact e ▸ T.nf_Refused_field; rcases List.mem_cons.mp m with e | m; exact e ▸ T.nf_Refused_level; rcases List.mem_cons.mp m with e | m; exact e ▸ T.nf_Refused_cause; exact nomatch m) (by decide) rfl) (evm_k (cs := CL c) (n := 21) (nm := 3) (ds := [d3, d1, d2]) (ns := ["field", "level", "cause"]) (ea_eq (ev_var (i := 2) rfl m2_4) (ea_eq (ev_var (i := 0) rfl m0_4) (ea_eq (ev_var (i := 1) rfl m1_4) ea_nil))) rfl rfl (by decide) T.xc_Refused.is T.xc_Refused.fl (fun f' m => by rcases List.mem_cons.mp m with e | m; exact e ▸ T.nf_Refused_field; rcases List.mem_cons.mp m with e | m; exact e ▸ T.nf_Refused_level; rcases List.mem_cons.mp m with e | m; exact e ▸ T.nf_Refused_cause; exact nomatch m) (by decide) rfl) f4 (Same.refl _) (fun y H' Dn' ex x' f' nx rt => ?_) fun y5 H5 x5 f5 => ?_
  · have m0' := m0_4.mono (x'.off f4.mem)
    have m1' := m1_4.mono (x'.off f4.mem)
    have m2' := m2_4.mono (x'.off f4.mem)
    refine q_ifE (b := !true || false) (σ := [some v0, some v1, some v2, some (.ref y)]) (S := S) (et_orE (et_notE (et_valE (K := K) (ev_is (i := 3) rfl ex.i (by decide) ev_i))) fun _ => et_testE (K := K) ((ev_neS (ev_reprE (ev_lstE (ea_eq (ev_xgV (i := 3) (f := "field") (d := d1) rfl ex (by simp)) (ea_eq (ev_xgV (i := 3) (f := "level") (d := d2) rfl ex (by simp)) (ea_eq (ev_xgV (i := 3) (f := "cause") (d := d3) rfl ex (by simp)) ea_nil))) (by simp)) z3) (ev_reprE (ev_lstE (ea_eq (ev_var (i := 0) rfl m0') (ea_eq (ev_var (i := 1) rfl m1') (ea_eq (ev_var (i := 2) rfl m2') ea_nil))) (by simp)) z3)).imp fun _ z => by rw [z, decide_eq_true rfl]; rfl)) f' (Same.refl _) (fun H2 x2 f2 z => nomatch z) (fun H2 x2 f2 _ => ?_)
    exact nx H2 x2 f2
  dsimp only
  have m0_5 := m0_4.mono (x5.off f4.mem)
  have m1_5 := m1_4.mono (x5.off f4.mem)
  have m2_5 := m2_4.mono (x5.off f4.mem)
  have X5 := X4.trans x5
  refine q_forT2 (K := K) (cs := CL c) (n := 22) (fs := [("conflict", d1)]) (S := S) (G := off S H5) (evm_p (cs := CL c) (n := 22) (nm := 1) (ds := [d1]) (ns := ["conflict"]) (ea_eq (ev_var (i := 0) rfl m0_5) ea_nil) rfl rfl (by decide) T.xc_Impossible.is T.xc_Impossible.fl (fun f' m => by rcases List.mem_cons.mp m with e | m; exact e ▸ T.nf_Impossible_conflict; exact nomatch m) (by decide) rfl) (evm_k (cs := CL c) (n := 22) (nm := 1) (ds := [d1]) (ns := ["conflict"]) (ea_eq (ev_var (i := 0) rfl m0_5) ea_nil) rfl rfl (by decide) T.xc_Impossible.is T.xc_Impossible.fl (fun f' m => by rcases List.mem_cons.mp m with e | m; exact e ▸ T.nf_Impossible_conflict; exact nomatch m) (by decide) rfl) f5 (Same.refl _) (fun y H' Dn' ex x' f' nx rt => ?_) fun y6 H6 x6 f6 => ?_
  · have m0' := m0_5.mono (x'.off f5.mem)
    refine q_ifE (b := !true || false) (σ := [some v0, some v1, some v2, some (.ref y)]) (S := S) (et_orE (et_notE (et_valE (K := K) (ev_is (i := 3) rfl ex.i (by decide) ev_i))) fun _ => et_testE (K := K) ((ev_neS (ev_reprE (ev_xgV (i := 3) rfl ex (by simp)) t0) (ev_reprE (ev_var (i := 0) rfl m0') t0)).imp fun _ z => by rw [z, decide_eq_true rfl]; rfl)) f' (Same.refl _) (fun H2 x2 f2 z => nomatch z) (fun H2 x2 f2 _ => ?_)
    exact nx H2 x2 f2
  dsimp only
  have m0_6 := m0_5.mono (x6.off f5.mem)
  have m1_6 := m1_5.mono (x6.off f5.mem)
  have m2_6 := m2_5.mono (x6.off f5.mem)
  have X6 := X5.trans x6
  refine q_forT2 (K := K) (cs := CL c) (n := 23) (fs := [("position", d1), ("results", d2)]) (S := S) (G := off S H6) (evm_p (cs := CL c) (n := 23) (nm := 2) (ds := [d1, d2]) (ns := ["position", "results"]) (ea_eq (ev_var (i := 0) rfl m0_6) (ea_eq (ev_var (i := 1) rfl m1_6) ea_nil)) rfl rfl (by decide) T.xc_RunFailed.is T.xc_RunFailed.fl (fun f' m => by rcases List.mem_cons.mp m with e | m; exact e ▸ T.nf_RunFailed_position; rcases List.mem_cons.mp m with e | m; exact e ▸ T.nf_RunFailed_results; exact nomatch m) (by decide) rfl) (evm_k (cs := CL c) (n := 23) (nm := 2) (ds := [d2, d1]) (ns := ["position", "results"]) (ea_eq (ev_var (i := 1) rfl m1_6) (ea_eq (ev_var (i := 0) rfl m0_6) ea_nil)) rfl rfl (by decide) T.xc_RunFailed.is T.xc_RunFailed.fl (fun f' m => by rcases List.mem_cons.mp m with e | m; exact e ▸ T.nf_RunFailed_position; rcases List.mem_cons.mp m with e | m; exact e ▸ T.nf_RunFailed_results; exact nomatch m) (by decide) rfl) f6 (Same.refl _) (fun y H' Dn' ex x' f' nx rt => ?_) fun y7 H7 x7 f7 => ?_
  · have m0' := m0_6.mono (x'.off f6.mem)
    have m1' := m1_6.mono (x'.off f6.mem)
    refine q_ifE (b := !true || false) (σ := [some v0, some v1, some v2, some (.ref y)]) (S := S) (et_orE (et_notE (et_valE (K := K) (ev_is (i := 3) rfl ex.i (by decide) ev_i))) fun _ => et_testE (K := K) ((ev_neS (ev_reprE (ev_lstE (ea_eq (ev_xgV (i := 3) (f := "position") (d := d1) rfl ex (by simp)) (ea_eq (ev_xgV (i := 3) (f := "results") (d := d2) rfl ex (by simp)) ea_nil)) (by simp)) z2) (ev_reprE (ev_lstE (ea_eq (ev_var (i := 0) rfl m0') (ea_eq (ev_var (i := 1) rfl m1') ea_nil)) (by simp)) z2)).imp fun _ z => by rw [z, decide_eq_true rfl]; rfl)) f' (Same.refl _) (fun H2 x2 f2 z => nomatch z) (fun H2 x2 f2 _ => ?_)
    exact nx H2 x2 f2
  dsimp only
  have m0_7 := m0_6.mono (x7.off f6.mem)
  have m1_7 := m1_6.mono (x7.off f6.mem)
  have m2_7 := m2_6.mono (x7.off f6.mem)
  have X7 := X6.trans x7
  refine q_forT2 (K := K) (cs := CL c) (n := 25) (fs := [("kind", d1), ("limit", d2)]) (S := S) (G := off S H7) (evm_p (cs := CL c) (n := 25) (nm := 2) (ds := [d1, d2]) (ns := ["kind", "limit"]) (ea_eq (ev_var (i := 0) rfl m0_7) (ea_eq (ev_var (i := 1) rfl m1_7) ea_nil)) rfl rfl (by decide) T.xc_TooMany.is T.xc_TooMany.fl (fun f' m => by rcases List.mem_cons.mp m with e | m; exact e ▸ T.nf_TooMany_kind; rcases List.mem_cons.mp m with e | m; exact e ▸ T.nf_TooMany_limit; exact nomatch m) (by decide) rfl) (evm_k (cs := CL c) (n := 25) (nm := 2) (ds := [d2, d1]) (ns := ["kind", "limit"]) (ea_eq (ev_var (i := 1) rfl m1_7) (ea_eq (ev_var (i := 0) rfl m0_7) ea_nil)) rfl rfl (by decide) T.xc_TooMany.is T.xc_TooMany.fl (fun f' m => by rcases List.mem_cons.mp m with e | m; exact e ▸ T.nf_TooMany_kind; rcases List.mem_cons.mp m with e | m; exact e ▸ T.nf_TooMany_limit; exact nomatch m) (by decide) rfl) f7 (Same.refl _) (fun y H' Dn' ex x' f' nx rt => ?_) fun y8 H8 x8 f8 => ?_
  · have m0' := m0_7.mono (x'.off f7.mem)
    have m1' := m1_7.mono (x'.off f7.mem)
    refine q_ifE (b := !true || false) (σ := [some v0, some v1, some v2, some (.ref y)]) (S := S) (et_orE (et_notE (et_valE (K := K) (ev_is (i := 3) rfl ex.i (by decide) ev_i))) fun _ => et_testE (K := K) ((ev_neS (ev_reprE (ev_lstE (ea_eq (ev_xgV (i := 3) (f := "kind") (d := d1) rfl ex (by simp)) (ea_eq (ev_xgV (i := 3) (f := "limit") (d := d2) rfl ex (by simp)) ea_nil)) (by simp)) z2) (ev_reprE (ev_lstE (ea_eq (ev_var (i := 0) rfl m0') (ea_eq (ev_var (i := 1) rfl m1') ea_nil)) (by simp)) z2)).imp fun _ z => by rw [z, decide_eq_true rfl]; rfl)) f' (Same.refl _) (fun H2 x2 f2 z => nomatch z) (fun H2 x2 f2 _ => ?_)
    exact nx H2 x2 f2
  dsimp only
  have m0_8 := m0_7.mono (x8.off f7.mem)
  have m1_8 := m1_7.mono (x8.off f7.mem)
  have m2_8 := m2_7.mono (x8.off f7.mem)
  have X8 := X7.trans x8
  refine q_retE (K := K) (S := S) (G := off S H8) (d := .bool true) (σ := [some v0, some v1, some v2, y8]) (ev_andE (b := true) (c := true) (ev_isE (evi_0 (cs := CL c) (n := 24) rfl (by decide) T.xn_NothingToTakeBack.2.1.1) (by decide) fun _ _ => ev_i) fun _ => ev_isE (evi_1 (cs := CL c) (n := 24) ev_s rfl (by decide) T.xn_NothingToTakeBack.2.1.1) (by decide) fun _ _ => ev_i) f8 (Same.refl _) fun u H2 x2 mu => ?_
  cases mu
  exact k _ _ H2 (X8.trans x2) (.bl _) rfl
end
end K18
--EXV InvalidName InvalidNumber InvalidLevel InvalidClock InvalidCount InvalidFields InvalidEquation InvalidEquations InvalidSetting InvalidSettings InvalidPairs InvalidWishes InvalidNames InvalidText InvalidCommand UnknownField UnknownReplica UnknownMessage NotFree NotDetermined OtherSheet Refused Impossible RunFailed NothingToTakeBack TooMany NoQuotient LastheldError MissingError StateError LimitError
set_option Elab.async false
set_option linter.all false
set_option maxRecDepth 100000
set_option maxHeartbeats 1000000
set_option exponentiation.threshold 20000
namespace K18
open PySem PySem.Spec L2 LK
open PyProof.Rows hiding St
local macro_rules | `(tactic| walk_at "ext") => `(tactic| first | exact Ext.refl | assumption | (refine Ext.trans ?_ (by assumption); walk_at "ext"))
local macro_rules | `(tactic| walk_at "sm") => `(tactic| first | exact Same.refl _ | assumption | (refine Ext.off ?_ (Fr.mem (by assumption)); walk_at "ext"))
local macro_rules | `(tactic| walk_at "dm") => `(tactic| first | assumption | exact .int _ | exact .bl _ | exact .str _ | exact .non | (refine D.mono (by assumption) ?_; walk_at "sm"))
local macro_rules | `(tactic| walk_at "sd") => `(tactic| first | assumption | rfl | decide | omega | (show _ ≤ 1000; decide))
local macro_rules | `(tactic| walk_at "ea") => `(tactic| first | exact ea_nil | (refine ea_eq ?_ ?_; (walk_at "ev"); (walk_at "ea")))
local macro_rules | `(tactic| walk_at "et") => `(tactic| first
  | (refine et_valE ?_; walk_at "ev") | (refine et_testE ?_; walk_at "ev") | (refine et_notE ?_; walk_at "et")
  | (refine et_andE ?_ (fun _ => ?_); (walk_at "et"); (walk_at "et")) | (refine et_orE ?_ (fun _ => ?_); (walk_at "et"); (walk_at "et")))
local macro_rules | `(tactic| walk_at "ev") => `(tactic| first
  | exact ev_i | exact ev_s | exact ev_b | exact ev_n | exact ev_dnew
  | (refine ev_var rfl ?_; walk_at "dm")
  | (refine ev_tupE ?_ ?_; (walk_at "ea"); (walk_at "sd")) | (refine ev_lstE ?_ ?_; (walk_at "ea"); (walk_at "sd"))
  | (refine ev_negE ?_; walk_at "ev")
  | (refine ev_isiE ?_ ?_; (walk_at "ev"); (walk_at "sd"))
  | (refine ev_lenE ?_ ?_ ?_; (walk_at "ev"); (walk_at "sd"); (walk_at "sd"))
  | (refine ev_atL ?_ ?_ ?_; (walk_at "ev"); (walk_at "ev"); (walk_at "sd")) | (refine ev_atT ?_ ?_ ?_; (walk_at "ev"); (walk_at "ev"); (walk_at "sd"))
  | (refine ev_addE ?_ ?_; (walk_at "ev"); (walk_at "ev")) | (refine ev_cmpE ?_ ?_; (walk_at "ev"); (walk_at "ev")) | (refine ev_i0E ?_ ?_; (walk_at "ev"); (walk_at "ev"))
  | (refine ev_mulE ?_ ?_ ?_; (walk_at "ev"); (walk_at "ev"); (walk_at "sd"))
  | (refine ev_eqIE ?_ ?_; (walk_at "ev"); (walk_at "ev")) | (refine ev_neIE ?_ ?_; (walk_at "ev"); (walk_at "ev"))
  | (refine ev_andE ?_ (fun _ => ?_); (walk_at "ev"); (walk_at "ev")) | (refine ev_orE ?_ (fun _ => ?_); (walk_at "ev"); (walk_at "ev")) | (refine ev_notE ?_; walk_at "ev")
  | (refine ev_fn ?_ ?_; (walk_at "ea"); (walk_at "sd")))
local macro_rules | `(tactic| walk_at "lit") => `(tactic| first | exact ev_i | exact ev_s | exact ev_b | exact ev_n | exact ev_dnew | (refine ev_negE ?_; walk_at "lit") | (refine ev_tupE ?_ (by decide); walk_at "lits") | (refine ev_lstE ?_ (by decide); walk_at "lits") | (refine ev_powE ?_ ?_ ⟨by decide, by decide, by decide⟩ <;> walk_at "lit"))
local macro_rules | `(tactic| walk_at "lits") => `(tactic| first | exact ea_nil | (refine ea_eq ?_ ?_; (walk_at "lit"); (walk_at "lits")))
section
variable {P : Program} {w : World} {K : PySem.W.Frag} {mg : Str → Option Value} {c : Cls} {base : Heap} {a : Addr} {G : Hp} {S : List Addr} {H : Hp}
theorem ok_l_plain_right {f : Addr} {fd : FuncData} (F : Fun K "_law_plain_right" "_law_plain_right" s_l_plain_right f fd) (T : Txt K mg c) (F_l_flags : FFl18 P w K mg base (CL c)) (F_l_bases : FBa18 P w K mg base (CL c)) : FnG P w K mg base CX0 3 f fd [] spPl18 := by
  refine fun_okG F sc_l_plain_right (fun vs H Q E h => ?_) (fun cdv A outer s H vs Q E hg hr h => ?_)
  · obtain ⟨_, _, rfl, _⟩ := h
    rfl
  obtain ⟨a, S, rfl, f0, k⟩ := h
  refine ⟨_, (pss_cons (ps_set (i := 0) sc_l_plain_right.nd rfl (by first | exact Or.inl rfl | exact Or.inr rfl) (pe_lst (pa_cons (pe_excV1 T.xn_LastheldError.2.2.1 T.xn_LastheldError.2.2.2 T.xn_LastheldError.1 T.xn_LastheldError.2.1.2 (by rfl) pe_str) (pa_cons (pe_excV1 T.xn_MissingError.2.2.1 T.xn_MissingError.2.2.2 T.xn_MissingError.1 T.xn_MissingError.2.1.2 (by rfl) pe_str) (pa_cons (pe_excV1 T.xn_StateError.2.2.1 T.xn_StateError.2.2.2 T.xn_StateError.1 T.xn_StateError.2.1.2 (by rfl) pe_str) (pa_cons (pe_excV1 T.xn_LimitError.2.2.1 T.xn_LimitError.2.2.2 T.xn_LimitError.1 T.xn_LimitError.2.1.2 (by rfl) pe_str) pa_nil))))))
    (pss_cons (ps_for PassesOwn.never rfl (pi_enumK (K := K) rfl (by rfl) T.b_enumerate (pa_cons (pv 0) pa_nil)) (pg_tupK (K := K) (n := 2) (by rfl) (by rfl) (pgs_cons (pg_name (i := 1) sc_l_plain_right.nd rfl (by first | exact Or.inl rfl | exact Or.inr rfl)) (pgs_cons (pg_name (i := 2) sc_l_plain_right.nd rfl (by first | exact Or.inl rfl | exact Or.inr rfl)) pgs_nil)))
    (pss_cons (ps_set (i := 3) sc_l_plain_right.nd rfl (by first | exact Or.inl rfl | exact Or.inr rfl) (pe_op oMul (pe_lst (pa_cons pe_bl pa_nil)) pe_int))
    (pss_cons (ps_asg pe_bl (pg_sub (pv 3) (pe_op oMul pe_int (pv 1)) set_list))
    (pss_cons (ps_asg pe_bl (pg_sub (pv 3) (pe_op (kAdd (K := K)) (pe_op oMul pe_int (pv 1)) pe_int) set_list))
    (pss_one (ps_if (PW.pt (pw_or (pt_cmpR (kNe (K := K) hr.units) (pe_fn F_l_flags hg (hr.mono (by decide)) (by rfl) pass0 (pa_cons (pv 2) pa_nil)) (pe_lst pa_nil) (nomark _)) (pw_or1 (pt_cmpR (kNe (K := K) hr.units) (pe_fn F_l_bases hg (hr.mono (by decide)) (by rfl) pass0 (pa_cons (pv 2) pa_nil)) (pv 3) (nomark _)))))
    (pss_one (ps_ret pe_bl))
    pss_nil))))))
    (pss_one (ps_ret pe_bl)))), ?_⟩
  refine q_lstI (K := K) (cs := CL c) (S := S) (G := off S H) (ns := [27, 28, 29, 30]) (j := 0) (σ := [none, none, none, none]) (evis_cons (evi_1 (cs := CL c) (n := 27) ev_s rfl (by decide) T.xn_LastheldError.2.1.1) (evis_cons (evi_1 (cs := CL c) (n := 28) ev_s rfl (by decide) T.xn_MissingError.2.1.1) (evis_cons (evi_1 (cs := CL c) (n := 29) ev_s rfl (by decide) T.xn_StateError.2.1.1) (evis_cons (evi_1 (cs := CL c) (n := 30) ev_s rfl (by decide) T.xn_LimitError.2.1.1) evis_nil)))) (by decide) f0 (Same.refl _) fun L vs1 H1 x1 f1 a1 h1 ax1 => ?_
  dsimp only
  refine q_forEnumX (K := K) (i := 0) (L := L) (xs := vs1) rfl h1 (fun i σ' H' => ∃ y1 y2 y3, σ' = [some (.ref L), y1, y2, y3] ∧ Ext a H1 H' ∧ Fr a S H') ⟨_, _, _, rfl, Ext.refl, f1⟩ (fun i σ' H' ⟨_, _, _, _, x', _⟩ => x'.keep _ _ a1 h1) (fun i x Tt σ' H' hx pv nT => ?_) fun σ' H' pv => ?_
  · obtain ⟨y1, y2, y3, rfl, x', f'⟩ := pv
    obtain ⟨n, hn, z, rfl, ex⟩ := paired_getR ax1 hx
    obtain ⟨i4, n27, gi, fl⟩ := four18 hn
    have n31 : n < 31 := by omega
    refine ⟨Tt, _, rfl, .inl (.inl upd_same), rfl, _, _, rfl, _, _, rfl, rfl, ?_⟩
    have xT : Ext a H' (upd H' Tt (.tup [.int (i : Nat), .ref z])) := Ext.new nT
    have fT := f'.ext xT
    have x2' := x'.trans xT
    have e2 := ex.mono (x2'.off f1.mem)
    generalize upd H' Tt (.tup [.int (i : Nat), .ref z]) = H2 at xT fT x2' e2 ⊢
    show tSeq _ _ _ [some (.ref L), some (.int (i : Nat)), some (.ref z), y3] H2
    refine q_repB (K := K) (S := S) (G := off S H2) (j := 3) (n := 9) (b := false) (σ := [some (.ref L), some (.int (i : Nat)), some (.ref z), y3]) (ev_lstE (ea_eq ev_b ea_nil) (by show 1 ≤ 1000; decide)) ev_i (by decide) fT (Same.refl _) fun M H3 x3 f3 nM hM => ?_
    have Ma := fT.ne nM
    have MS := fT.out nM
    have e3 := e2.mono (x3.off fT.mem)
    have fS : LK.Fr a S H3 := fT.ext x3
    dsimp only
    refine q_storeE (K := K) (T := S) (GT := off S H3) (S := S) (G := off S H3) (L := M) (i := 3) (k := 2 * i) (acc := List.replicate 9 (V.bl false)) (C := (· = .bool true)) (σ := [some (.ref L), some (.int (i : Nat)), some (.ref z), some (.ref M)]) rfl hM Ma ev_b ((ev_mulE ev_i (ev_var (i := 1) rfl (.int _)) (big_mul (s := 2) (t := 3) (by decide) (by show i < 8; omega) (by decide))).imp fun _ e => by rw [e]; congr 1) (by rw [List.length_replicate]; omega) fS (Same.refl _) fS (Same.refl _) fun v d H4 x4 f4 hM4 m4 c4 => ?_
    subst c4
    cases m4
    have x24 : Ext a H2 (upd H4 M (.lst ((List.replicate 9 (V.bl false)).set (2 * i) (.bl true)))) := (x3.trans x4).store nM Ma
    have f4u : LK.Fr a S (upd H4 M (.lst ((List.replicate 9 (V.bl false)).set (2 * i) (.bl true)))) := f4.upd Ma
    have h4u : upd H4 M (.lst ((List.replicate 9 (V.bl false)).set (2 * i) (.bl true))) M = some (.lst ((List.replicate 9 (V.bl false)).set (2 * i) (.bl true))) := upd_same
    generalize upd H4 M (.lst ((List.replicate 9 (V.bl false)).set (2 * i) (.bl true))) = H5 at x24 f4u h4u ⊢
    dsimp only
    refine q_storeE (K := K) (T := S) (GT := off S H5) (S := S) (G := off S H5) (L := M) (i := 3) (k := 2 * i + 1) (acc := (List.replicate 9 (V.bl false)).set (2 * i) (.bl true)) (C := (· = .bool true)) (σ := [some (.ref L), some (.int (i : Nat)), some (.ref z), some (.ref M)]) rfl h4u Ma ev_b ((ev_addE (ev_mulE ev_i (ev_var (i := 1) rfl (.int _)) (big_mul (s := 2) (t := 3) (by decide) (by show i < 8; omega) (by decide))) ev_i).imp fun _ e => by rw [e]; congr 1) (by rw [List.length_set, List.length_replicate]; omega) f4u (Same.refl _) f4u (Same.refl _) fun v6 d6 H6 x6 f6 hM6 m6 c6 => ?_
    subst c6
    cases m6
    have x26 := (x24.trans x6).store (o := .lst (dueL i)) nM Ma
    have f6u : LK.Fr a S (upd H6 M (.lst (dueL i))) := f6.upd Ma
    have h6u : upd H6 M (.lst (dueL i)) M = some (.lst (dueL i)) := upd_same
    dsimp only
    show tIfS _ _ _ _ [some (.ref L), some (.int (i : Nat)), some (.ref z), some (.ref M)] (upd H6 M (HO.lst (dueL i)))
    generalize upd H6 M (.lst (dueL i)) = H7 at x26 f6u h6u ⊢
    have e7 := e2.mono (x26.off fT.mem)
    have m7 : D K (off S H7) (.ref M) (.list ((dueB i).map .bool)) := .lst (off_mk MS h6u) (by rw [due_map]; exact bools_da _)
    refine q_ifE (b := !true || !true) (σ := [some (.ref L), some (.int (i : Nat)), some (.ref z), some (.ref M)]) (S := S) (et_orE (et_testE (K := K) ((ev_neDE (d := flD n) (e := .list []) (ev_fl (i := 2) rfl e7) (ev_lstE ea_nil (by decide)) (fl_eqOk n) (ints_eqOk [])).imp fun _ q => by rw [q, fl]; rfl)) fun _ => et_testE (K := K) ((ev_neDE (d := baD n) (e := baD n) (ev_fl (i := 2) rfl e7) ((ev_var (i := 3) rfl m7).imp fun _ q => by rw [q, ba_due n31, gi]) (by rw [ba_due n31]; exact bools_eqOk _) (by rw [ba_due n31]; exact bools_eqOk _)).imp fun _ q => by rw [q, (show EqOk (baD n) by rw [ba_due n31]; exact bools_eqOk _).reflV])) f6u (Same.refl _) (fun H8 x8 f8 q => nomatch q) (fun H8 x8 f8 _ => ?_)
    exact ⟨_, _, _, rfl, (x2'.trans x26).trans x8, f8⟩
  · obtain ⟨y1, y2, y3, rfl, x', f'⟩ := pv
    dsimp only
    refine q_retE (K := K) (d := .bool true) ev_b f' (Same.refl _) fun u H2 x2 mu => ?_
    cases mu
    exact k H2 ((x1.trans x').trans x2)
theorem ok_law {f : Addr} {fd : FuncData} (F : Fun K "law" "law" s_law f fd) (T : Txt K mg c) (F_l_pot : Df P w K mg base CX0 1 "_law_pot" ["_law_script", "_law_k"] (spPot K)) (F_l_odd : Df P w K mg base CX0 2 "_law_odd" ["_law_pot_here"] (spP K (fun ds => ds = []) (fun _ r => r ∈ odd29)))
    (F_l_values_right : Df P w K mg base CX0 3 "_law_values_right" ["_law_thing"] (spG K (fun ds => ∃ d, ds = [d] ∧ Tame d) fun _ r => r = .bool true)) (F_l_places_right : Df P w K mg base CX0 3 "_law_places_right" ["_law_thing"] (spG K (fun ds => ∃ d, ds = [d] ∧ Tame d) fun _ r => r = .bool true))
    (F_l_others_right : Df P w K mg base CX0 3 "_law_others_right" ["_law_thing", "_law_mate", "_law_third"] (spG K (fun ds => ∃ d1 d2 d3, ds = [d1, d2, d3] ∧ d1 ∈ odd29 ∧ d2 ∈ odd29 ∧ d3 ∈ odd29) fun _ r => r = .bool true)) (F_l_plain_right : Df P w K mg base CX0 3 "_law_plain_right" [] spPl18) :
    FnG P w K mg base CX0 4 f fd ["_law_script"] (spLaw K) := by
  refine fun_okG F sc_law (fun vs H Q E h => ?_) (fun cdv A outer s H vs Q E hg hr h => ?_)
  · obtain ⟨s, ns, rfl, _⟩ := h
    rfl
  obtain ⟨s, ns, rfl, hs, hl, k⟩ := h
  refine ⟨_, (pss_cons (ps_for PassesOwn.never rfl (pi_range1 (by rfl) T.b_range (pa_cons (pe_callB (call_max2 rfl) (by rfl) T.b_max (by decide +kernel) (pa_cons pe_int (pa_cons (pe_callB (call_min2 rfl) (by rfl) T.b_min (by decide +kernel) (pa_cons pe_int (pa_cons (pe_callB (kLen (K := K)) (by rfl) T.b_len (by decide +kernel) (pa_cons (pv 0) pa_nil)) pa_nil))) pa_nil))) pa_nil)) (pg_name (i := 1) sc_law.nd rfl (by first | exact Or.inl rfl | exact Or.inr rfl))
    (pss_cons (ps_set (i := 2) sc_law.nd rfl (by first | exact Or.inl rfl | exact Or.inr rfl) (pe_fn F_l_pot hg (hr.mono (by decide)) (by rfl) pass0 (pa_cons (pv 0) (pa_cons (pv 1) pa_nil))))
    (pss_cons (ps_par3 (i := 3) (j := 4) (l := 5) (by rfl) sc_law.nd rfl rfl rfl (by decide) (by decide) (by decide) rfl rfl rfl (pa_cons (pe_fn F_l_odd hg (hr.mono (by decide)) (by rfl) pass0 (pa_cons (pv 2) pa_nil)) (pa_cons (pe_fn F_l_odd hg (hr.mono (by decide)) (by rfl) pass0 (pa_cons (pv 2) pa_nil)) (pa_cons (pe_fn F_l_odd hg (hr.mono (by decide)) (by rfl) pass0 (pa_cons (pv 2) pa_nil)) pa_nil))) (by rfl))
    (pss_one (ps_if (PW.pt (pw_or (pt_not (pt_val (pe_fn F_l_values_right hg (hr.mono (by decide)) (by rfl) pass0 (pa_cons (pv 3) pa_nil)))) (pw_or (pt_not (pt_val (pe_fn F_l_places_right hg (hr.mono (by decide)) (by rfl) pass0 (pa_cons (pv 4) pa_nil)))) (pw_or1 (pt_not (pt_val (pe_fn F_l_others_right hg (hr.mono (by decide)) (by rfl) pass0 (pa_cons (pv 3) (pa_cons (pv 4) (pa_cons (pv 5) pa_nil))))))))))
    (pss_one (ps_ret pe_bl))
    pss_nil)))))
    (pss_one (ps_ret (pe_fn0 F_l_plain_right hg (hr.mono (by decide)) (by rfl) pass0)))), ?_⟩
  refine rd_lawForP (K := K) (m := 6) (σ := [some (.ref s), none, none, none, none, none]) (hi := rfl) (by decide) hs rfl (fun R r => ?_) ?_ fun σ' H' p pot => ?_
  · refine ⟨.ref s, rfl, .ref s, _, rfl, .inl ⟨_, hs, rfl⟩, _, _, rfl, _, _, rfl, r _ ?_ ?_⟩
    · split <;> omega
    · rw [List.length_map]
      split <;> split <;> omega
  · intro Dn' p H0 H1 σ' s1 np pot l' e0 e2 fin
    match σ', l' with
    | [y0, y1, y2, y3, y4, y5], _ =>
    injection e0 with e0
    injection e2 with e2
    subst e0 e2
    have f1 := Fr.one pot
    have od : ∀ {G : Hp}, Ev K p G (tCall (spP K (fun ds => ds = []) (fun _ r => r ∈ odd29)) [] E0 (tCons (tVar 2) tNil)) [some (.ref s), y1, some (.ref p), y3, y4, y5] (· ∈ odd29) := fun {G} => ev_callP (i := 2) rfl ea_nil (fun _ e => e) fun _ _ _ h => h
    refine q_par3 (K := K) (i := 3) (j := 4) (l := 5) (S := [p]) (σ := [some (.ref s), y1, some (.ref p), y3, y4, y5]) od od od f1 (Same.refl _) fun u v w d e g H2 x2 f2 m1 m2 m3 o1 o2 o3 => ?_
    dsimp only
    refine q_ifE (b := !true || (!true || !true)) (σ := [some (.ref s), y1, some (.ref p), some u, some v, some w]) (et_orE (et_notE (et_valE (K := K) (ev_callG (ea_eq (ev_var (i := 3) rfl m1) ea_nil) (fun ds e => ⟨d, e, (odd29_sz o1).tame⟩) fun _ _ _ e => e))) fun _ => et_orE (et_notE (et_valE (K := K) (ev_callG (ea_eq (ev_var (i := 4) rfl m2) ea_nil) (fun ds q => ⟨e, q, (odd29_sz o2).tame⟩) fun _ _ _ e => e))) fun _ => et_notE (et_valE (K := K) (ev_callG (ea_eq (ev_var (i := 3) rfl m1) (ea_eq (ev_var (i := 4) rfl m2) (ea_eq (ev_var (i := 5) rfl m3) ea_nil))) (fun ds q => ⟨d, e, g, q, o1, o2, o3⟩) fun _ _ _ e => e))) f2 (Same.refl _) (fun H3 x3 f3 e => nomatch e) (fun H3 x3 f3 _ => ?_)
    exact fin _ H3 rfl rfl (x2.trans x3)
  · dsimp only
    exact ⟨p, [p], rfl, Fr.one pot, fun H2 x2 => k H2⟩
end
end K18
--EXV InvalidName InvalidNumber InvalidLevel InvalidClock InvalidCount InvalidFields InvalidEquation InvalidEquations InvalidSetting InvalidSettings InvalidPairs InvalidWishes InvalidNames InvalidText InvalidCommand UnknownField UnknownReplica UnknownMessage NotFree NotDetermined OtherSheet Refused Impossible RunFailed NothingToTakeBack TooMany NoQuotient LastheldError MissingError StateError LimitError
set_option Elab.async false
set_option linter.all false
set_option maxRecDepth 100000
set_option maxHeartbeats 1000000
namespace K18
open PySem PySem.Spec L2 LK
open PyProof.Rows hiding St
/-! ### the end -/

def gd_l_pot : He5.DefA := ⟨fun K => (He.ga K "_law_pot"), "_law_pot", "_law_pot", defArgs s_l_pot, defBody s_l_pot, defScope s_l_pot, [], []⟩
def gd_l_draw : He5.DefA := ⟨fun K => (He.ga K "_law_draw"), "_law_draw", "_law_draw", defArgs s_l_draw, defBody s_l_draw, defScope s_l_draw, [], []⟩
def gd_l_odd : He5.DefA := ⟨fun K => (He.ga K "_law_odd"), "_law_odd", "_law_odd", defArgs s_l_odd, defBody s_l_odd, defScope s_l_odd, [], []⟩
def gd_l_flags : He5.DefA := ⟨fun K => (He.ga K "_law_flags"), "_law_flags", "_law_flags", defArgs s_l_flags, defBody s_l_flags, defScope s_l_flags, [], []⟩
def gd_l_bases : He5.DefA := ⟨fun K => (He.ga K "_law_bases"), "_law_bases", "_law_bases", defArgs s_l_bases, defBody s_l_bases, defScope s_l_bases, [], []⟩
def gd_l_is : He5.DefA := ⟨fun K => (He.ga K "_law_is"), "_law_is", "_law_is", defArgs s_l_is, defBody s_l_is, defScope s_l_is, [], []⟩
def gd_l_values_right : He5.DefA := ⟨fun K => (He.ga K "_law_values_right"), "_law_values_right", "_law_values_right", defArgs s_l_values_right, defBody s_l_values_right, defScope s_l_values_right, [], []⟩
def gd_l_places_right : He5.DefA := ⟨fun K => (He.ga K "_law_places_right"), "_law_places_right", "_law_places_right", defArgs s_l_places_right, defBody s_l_places_right, defScope s_l_places_right, [], []⟩
def gd_l_others_right : He5.DefA := ⟨fun K => (He.ga K "_law_others_right"), "_law_others_right", "_law_others_right", defArgs s_l_others_right, defBody s_l_others_right, defScope s_l_others_right, [], []⟩
def gd_l_plain_right : He5.DefA := ⟨fun K => (He.ga K "_law_plain_right"), "_law_plain_right", "_law_plain_right", defArgs s_l_plain_right, defBody s_l_plain_right, defScope s_l_plain_right, [], []⟩
def gd_law : He5.DefA := ⟨fun K => (He.ga K "law"), "law", "law", defArgs s_law, defBody s_law, defScope s_law, [], []⟩
def gd_InvalidName___init__ : He5.DefA := ⟨fun K => He.ma K (He.ga K "InvalidName") "__init__", "__init__", "InvalidName.__init__", defArgs s_InvalidName___init__, defBody s_InvalidName___init__, defScope s_InvalidName___init__, [], []⟩
def gd_InvalidNumber___init__ : He5.DefA := ⟨fun K => He.ma K (He.ga K "InvalidNumber") "__init__", "__init__", "InvalidNumber.__init__", defArgs s_InvalidNumber___init__, defBody s_InvalidNumber___init__, defScope s_InvalidNumber___init__, [], []⟩
def gd_InvalidLevel___init__ : He5.DefA := ⟨fun K => He.ma K (He.ga K "InvalidLevel") "__init__", "__init__", "InvalidLevel.__init__", defArgs s_InvalidLevel___init__, defBody s_InvalidLevel___init__, defScope s_InvalidLevel___init__, [], []⟩
def gd_InvalidClock___init__ : He5.DefA := ⟨fun K => He.ma K (He.ga K "InvalidClock") "__init__", "__init__", "InvalidClock.__init__", defArgs s_InvalidClock___init__, defBody s_InvalidClock___init__, defScope s_InvalidClock___init__, [], []⟩
def gd_InvalidCount___init__ : He5.DefA := ⟨fun K => He.ma K (He.ga K "InvalidCount") "__init__", "__init__", "InvalidCount.__init__", defArgs s_InvalidCount___init__, defBody s_InvalidCount___init__, defScope s_InvalidCount___init__, [], []⟩
def gd_InvalidFields___init__ : He5.DefA := ⟨fun K => He.ma K (He.ga K "InvalidFields") "__init__", "__init__", "InvalidFields.__init__", defArgs s_InvalidFields___init__, defBody s_InvalidFields___init__, defScope s_InvalidFields___init__, [], []⟩
def gd_InvalidEquation___init__ : He5.DefA := ⟨fun K => He.ma K (He.ga K "InvalidEquation") "__init__", "__init__", "InvalidEquation.__init__", defArgs s_InvalidEquation___init__, defBody s_InvalidEquation___init__, defScope s_InvalidEquation___init__, [], []⟩
def gd_InvalidEquations___init__ : He5.DefA := ⟨fun K => He.ma K (He.ga K "InvalidEquations") "__init__", "__init__", "InvalidEquations.__init__", defArgs s_InvalidEquations___init__, defBody s_InvalidEquations___init__, defScope s_InvalidEquations___init__, [], []⟩
def gd_InvalidSetting___init__ : He5.DefA := ⟨fun K => He.ma K (He.ga K "InvalidSetting") "__init__", "__init__", "InvalidSetting.__init__", defArgs s_InvalidSetting___init__, defBody s_InvalidSetting___init__, defScope s_InvalidSetting___init__, [], []⟩
def gd_InvalidSettings___init__ : He5.DefA := ⟨fun K => He.ma K (He.ga K "InvalidSettings") "__init__", "__init__", "InvalidSettings.__init__", defArgs s_InvalidSettings___init__, defBody s_InvalidSettings___init__, defScope s_InvalidSettings___init__, [], []⟩
def gd_InvalidPairs___init__ : He5.DefA := ⟨fun K => He.ma K (He.ga K "InvalidPairs") "__init__", "__init__", "InvalidPairs.__init__", defArgs s_InvalidPairs___init__, defBody s_InvalidPairs___init__, defScope s_InvalidPairs___init__, [], []⟩
def gd_InvalidWishes___init__ : He5.DefA := ⟨fun K => He.ma K (He.ga K "InvalidWishes") "__init__", "__init__", "InvalidWishes.__init__", defArgs s_InvalidWishes___init__, defBody s_InvalidWishes___init__, defScope s_InvalidWishes___init__, [], []⟩
def gd_InvalidNames___init__ : He5.DefA := ⟨fun K => He.ma K (He.ga K "InvalidNames") "__init__", "__init__", "InvalidNames.__init__", defArgs s_InvalidNames___init__, defBody s_InvalidNames___init__, defScope s_InvalidNames___init__, [], []⟩
def gd_InvalidText___init__ : He5.DefA := ⟨fun K => He.ma K (He.ga K "InvalidText") "__init__", "__init__", "InvalidText.__init__", defArgs s_InvalidText___init__, defBody s_InvalidText___init__, defScope s_InvalidText___init__, [], []⟩
def gd_InvalidCommand___init__ : He5.DefA := ⟨fun K => He.ma K (He.ga K "InvalidCommand") "__init__", "__init__", "InvalidCommand.__init__", defArgs s_InvalidCommand___init__, defBody s_InvalidCommand___init__, defScope s_InvalidCommand___init__, [], []⟩
def gd_UnknownField___init__ : He5.DefA := ⟨fun K => He.ma K (He.ga K "UnknownField") "__init__", "__init__", "UnknownField.__init__", defArgs s_UnknownField___init__, defBody s_UnknownField___init__, defScope s_UnknownField___init__, [], []⟩
def gd_UnknownReplica___init__ : He5.DefA := ⟨fun K => He.ma K (He.ga K "UnknownReplica") "__init__", "__init__", "UnknownReplica.__init__", defArgs s_UnknownReplica___init__, defBody s_UnknownReplica___init__, defScope s_UnknownReplica___init__, [], []⟩
def gd_UnknownMessage___init__ : He5.DefA := ⟨fun K => He.ma K (He.ga K "UnknownMessage") "__init__", "__init__", "UnknownMessage.__init__", defArgs s_UnknownMessage___init__, defBody s_UnknownMessage___init__, defScope s_UnknownMessage___init__, [], []⟩
def gd_NotFree___init__ : He5.DefA := ⟨fun K => He.ma K (He.ga K "NotFree") "__init__", "__init__", "NotFree.__init__", defArgs s_NotFree___init__, defBody s_NotFree___init__, defScope s_NotFree___init__, [], []⟩
def gd_NotDetermined___init__ : He5.DefA := ⟨fun K => He.ma K (He.ga K "NotDetermined") "__init__", "__init__", "NotDetermined.__init__", defArgs s_NotDetermined___init__, defBody s_NotDetermined___init__, defScope s_NotDetermined___init__, [], []⟩
def gd_OtherSheet___init__ : He5.DefA := ⟨fun K => He.ma K (He.ga K "OtherSheet") "__init__", "__init__", "OtherSheet.__init__", defArgs s_OtherSheet___init__, defBody s_OtherSheet___init__, defScope s_OtherSheet___init__, [], []⟩
def gd_Refused___init__ : He5.DefA := ⟨fun K => He.ma K (He.ga K "Refused") "__init__", "__init__", "Refused.__init__", defArgs s_Refused___init__, defBody s_Refused___init__, defScope s_Refused___init__, [], []⟩
def gd_Impossible___init__ : He5.DefA := ⟨fun K => He.ma K (He.ga K "Impossible") "__init__", "__init__", "Impossible.__init__", defArgs s_Impossible___init__, defBody s_Impossible___init__, defScope s_Impossible___init__, [], []⟩
def gd_RunFailed___init__ : He5.DefA := ⟨fun K => He.ma K (He.ga K "RunFailed") "__init__", "__init__", "RunFailed.__init__", defArgs s_RunFailed___init__, defBody s_RunFailed___init__, defScope s_RunFailed___init__, [], []⟩
def gd_TooMany___init__ : He5.DefA := ⟨fun K => He.ma K (He.ga K "TooMany") "__init__", "__init__", "TooMany.__init__", defArgs s_TooMany___init__, defBody s_TooMany___init__, defScope s_TooMany___init__, [], []⟩
def gd_NoQuotient___init__ : He5.DefA := ⟨fun K => He.ma K (He.ga K "NoQuotient") "__init__", "__init__", "NoQuotient.__init__", defArgs s_NoQuotient___init__, defBody s_NoQuotient___init__, defScope s_NoQuotient___init__, [], []⟩
def ghLoose : List Str := (["LastheldError",
  "MissingError",
  "StateError",
  "LimitError",
  "InvalidName",
  "InvalidNumber",
  "InvalidLevel",
  "InvalidClock",
  "InvalidCount",
  "InvalidFields",
  "InvalidEquation",
  "InvalidEquations",
  "InvalidSetting",
  "InvalidSettings",
  "InvalidPairs",
  "InvalidWishes",
  "InvalidNames",
  "InvalidText",
  "InvalidCommand",
  "UnknownField",
  "UnknownReplica",
  "UnknownMessage",
  "NotFree",
  "NotDetermined",
  "OtherSheet",
  "Refused",
  "Impossible",
  "RunFailed",
  "NothingToTakeBack",
  "TooMany"] : List Str) ++ (["NoQuotient",
  "_law_pot",
  "_law_draw",
  "_law_odd",
  "_law_flags",
  "_law_bases",
  "_law_is",
  "_law_values_right",
  "_law_places_right",
  "_law_others_right",
  "_law_plain_right"] : List Str)
def ghFa : List He.Fa := ([.free "ArithmeticError",
  .free "IndexError",
  .free "KeyError",
  .free "LookupError",
  .free "RuntimeError",
  .free "ValueError",
  .free "abs",
  .free "divmod",
  .free "enumerate",
  .free "isinstance",
  .free "len",
  .free "list",
  .free "max",
  .free "min",
  .free "range",
  .free "repr",
  .free "zip",
  .glo "LastheldError",
  .glo "MissingError",
  .glo "StateError",
  .glo "LimitError",
  .glo "InvalidName",
  .glo "InvalidNumber",
  .glo "InvalidLevel",
  .glo "InvalidClock",
  .glo "InvalidCount",
  .glo "InvalidFields",
  .glo "InvalidEquation",
  .glo "InvalidEquations",
  .glo "InvalidSetting"] : List He.Fa) ++ ([.glo "InvalidSettings",
  .glo "InvalidPairs",
  .glo "InvalidWishes",
  .glo "InvalidNames",
  .glo "InvalidText",
  .glo "InvalidCommand",
  .glo "UnknownField",
  .glo "UnknownReplica",
  .glo "UnknownMessage",
  .glo "NotFree",
  .glo "NotDetermined",
  .glo "OtherSheet",
  .glo "Refused",
  .glo "Impossible",
  .glo "RunFailed",
  .glo "NothingToTakeBack",
  .glo "TooMany",
  .glo "NoQuotient",
  .noat "InvalidName" "value",
  .noat "InvalidNumber" "value",
  .noat "InvalidLevel" "value",
  .noat "InvalidClock" "value",
  .noat "InvalidCount" "value",
  .noat "InvalidFields" "index",
  .noat "InvalidEquation" "value",
  .noat "InvalidEquations" "index",
  .noat "InvalidSetting" "value",
  .noat "InvalidSettings" "index",
  .noat "InvalidPairs" "index",
  .noat "InvalidWishes" "index"] : List He.Fa) ++ ([.noat "InvalidNames" "index",
  .noat "InvalidText" "line",
  .noat "InvalidCommand" "command",
  .noat "UnknownField" "value",
  .noat "UnknownReplica" "value",
  .noat "UnknownMessage" "value",
  .noat "NotFree" "given",
  .noat "NotDetermined" "field",
  .noat "OtherSheet" "index",
  .noat "Refused" "field",
  .noat "Refused" "level",
  .noat "Refused" "cause",
  .noat "Impossible" "conflict",
  .noat "RunFailed" "position",
  .noat "RunFailed" "results",
  .noat "TooMany" "kind",
  .noat "TooMany" "limit",
  .noat "NoQuotient" "value",
  .glo "_law_pot",
  .glo "_law_draw",
  .glo "_law_odd",
  .glo "_law_flags",
  .glo "_law_bases",
  .glo "_law_is",
  .glo "_law_values_right",
  .glo "_law_places_right",
  .glo "_law_others_right",
  .glo "_law_plain_right",
  .glo "law"] : List He.Fa)
def ghFn : List He5.DefA := ([gd_l_pot,
  gd_l_draw,
  gd_l_odd,
  gd_l_flags,
  gd_l_bases,
  gd_l_is,
  gd_l_values_right,
  gd_l_places_right,
  gd_l_others_right,
  gd_l_plain_right,
  gd_law,
  gd_InvalidName___init__,
  gd_InvalidNumber___init__,
  gd_InvalidLevel___init__,
  gd_InvalidClock___init__,
  gd_InvalidCount___init__,
  gd_InvalidFields___init__,
  gd_InvalidEquation___init__,
  gd_InvalidEquations___init__,
  gd_InvalidSetting___init__,
  gd_InvalidSettings___init__,
  gd_InvalidPairs___init__,
  gd_InvalidWishes___init__,
  gd_InvalidNames___init__,
  gd_InvalidText___init__,
  gd_InvalidCommand___init__,
  gd_UnknownField___init__,
  gd_UnknownReplica___init__,
  gd_UnknownMessage___init__,
  gd_NotFree___init__] : List He5.DefA) ++ ([gd_NotDetermined___init__,
  gd_OtherSheet___init__,
  gd_Refused___init__,
  gd_Impossible___init__,
  gd_RunFailed___init__,
  gd_TooMany___init__,
  gd_NoQuotient___init__] : List He5.DefA)
def ghBs : List (PySem.W.Frag → Bool) := ([fun K => LKH.occB K,
  fun K => LKH.excB K (He.ga K "InvalidName"),
  fun K => LKH.excB K (He.ga K "InvalidNumber"),
  fun K => LKH.excB K (He.ga K "InvalidLevel"),
  fun K => LKH.excB K (He.ga K "InvalidClock"),
  fun K => LKH.excB K (He.ga K "InvalidCount"),
  fun K => LKH.excB K (He.ga K "InvalidFields"),
  fun K => LKH.excB K (He.ga K "InvalidEquation"),
  fun K => LKH.excB K (He.ga K "InvalidEquations"),
  fun K => LKH.excB K (He.ga K "InvalidSetting"),
  fun K => LKH.excB K (He.ga K "InvalidSettings"),
  fun K => LKH.excB K (He.ga K "InvalidPairs"),
  fun K => LKH.excB K (He.ga K "InvalidWishes"),
  fun K => LKH.excB K (He.ga K "InvalidNames"),
  fun K => LKH.excB K (He.ga K "InvalidText"),
  fun K => LKH.excB K (He.ga K "InvalidCommand"),
  fun K => LKH.excB K (He.ga K "UnknownField"),
  fun K => LKH.excB K (He.ga K "UnknownReplica"),
  fun K => LKH.excB K (He.ga K "UnknownMessage"),
  fun K => LKH.excB K (He.ga K "NotFree"),
  fun K => LKH.excB K (He.ga K "NotDetermined"),
  fun K => LKH.excB K (He.ga K "OtherSheet"),
  fun K => LKH.excB K (He.ga K "Refused"),
  fun K => LKH.excB K (He.ga K "Impossible"),
  fun K => LKH.excB K (He.ga K "RunFailed"),
  fun K => LKH.excB K (He.ga K "NothingToTakeBack"),
  fun K => LKH.excB K (He.ga K "TooMany"),
  fun K => LKH.excB K (He.ga K "NoQuotient"),
  fun K => LKH.excB K (He.ga K "LastheldError"),
  fun K => LKH.excB K (He.ga K "MissingError")] : List (PySem.W.Frag → Bool)) ++ ([fun K => LKH.excB K (He.ga K "StateError"),
  fun K => LKH.excB K (He.ga K "LimitError"),
  fun K => LKH.rdB K (He.ga K "LastheldError"),
  fun K => LKH.initB K (He.ga K "LastheldError") "ValueError.__init__",
  fun K => LKH.rdB K (He.ga K "LimitError"),
  fun K => LKH.initB K (He.ga K "LimitError") "ArithmeticError.__init__",
  fun K => LKH.rdB K (He.ga K "MissingError"),
  fun K => LKH.initB K (He.ga K "MissingError") "LookupError.__init__",
  fun K => LKH.rdB K (He.ga K "StateError"),
  fun K => LKH.initB K (He.ga K "StateError") "RuntimeError.__init__",
  fun K => LKH.chainB K (He.ga K "InvalidName") [.ref (He.ga K "LastheldError"), .type "ValueError", .type "Exception", .type "BaseException", .type "object"] "ValueError.__new__",
  fun K => LKH.xinB K (He.ga K "InvalidName"),
  fun K => LKH.chainB K (He.ga K "InvalidNumber") [.ref (He.ga K "LastheldError"), .type "ValueError", .type "Exception", .type "BaseException", .type "object"] "ValueError.__new__",
  fun K => LKH.xinB K (He.ga K "InvalidNumber"),
  fun K => LKH.chainB K (He.ga K "InvalidLevel") [.ref (He.ga K "LastheldError"), .type "ValueError", .type "Exception", .type "BaseException", .type "object"] "ValueError.__new__",
  fun K => LKH.xinB K (He.ga K "InvalidLevel"),
  fun K => LKH.chainB K (He.ga K "InvalidClock") [.ref (He.ga K "LastheldError"), .type "ValueError", .type "Exception", .type "BaseException", .type "object"] "ValueError.__new__",
  fun K => LKH.xinB K (He.ga K "InvalidClock"),
  fun K => LKH.chainB K (He.ga K "InvalidCount") [.ref (He.ga K "LastheldError"), .type "ValueError", .type "Exception", .type "BaseException", .type "object"] "ValueError.__new__",
  fun K => LKH.xinB K (He.ga K "InvalidCount"),
  fun K => LKH.chainB K (He.ga K "InvalidFields") [.ref (He.ga K "LastheldError"), .type "ValueError", .type "Exception", .type "BaseException", .type "object"] "ValueError.__new__",
  fun K => LKH.xinB K (He.ga K "InvalidFields"),
  fun K => LKH.chainB K (He.ga K "InvalidEquation") [.ref (He.ga K "LastheldError"), .type "ValueError", .type "Exception", .type "BaseException", .type "object"] "ValueError.__new__",
  fun K => LKH.xinB K (He.ga K "InvalidEquation"),
  fun K => LKH.chainB K (He.ga K "InvalidEquations") [.ref (He.ga K "LastheldError"), .type "ValueError", .type "Exception", .type "BaseException", .type "object"] "ValueError.__new__",
  fun K => LKH.xinB K (He.ga K "InvalidEquations"),
  fun K => LKH.chainB K (He.ga K "InvalidSetting") [.ref (He.ga K "LastheldError"), .type "ValueError", .type "Exception", .type "BaseException", .type "object"] "ValueError.__new__",
  fun K => LKH.xinB K (He.ga K "InvalidSetting"),
  fun K => LKH.chainB K (He.ga K "InvalidSettings") [.ref (He.ga K "LastheldError"), .type "ValueError", .type "Exception", .type "BaseException", .type "object"] "ValueError.__new__",
  fun K => LKH.xinB K (He.ga K "InvalidSettings")] : List (PySem.W.Frag → Bool)) ++ ([fun K => LKH.chainB K (He.ga K "InvalidPairs") [.ref (He.ga K "LastheldError"), .type "ValueError", .type "Exception", .type "BaseException", .type "object"] "ValueError.__new__",
  fun K => LKH.xinB K (He.ga K "InvalidPairs"),
  fun K => LKH.chainB K (He.ga K "InvalidWishes") [.ref (He.ga K "LastheldError"), .type "ValueError", .type "Exception", .type "BaseException", .type "object"] "ValueError.__new__",
  fun K => LKH.xinB K (He.ga K "InvalidWishes"),
  fun K => LKH.chainB K (He.ga K "InvalidNames") [.ref (He.ga K "LastheldError"), .type "ValueError", .type "Exception", .type "BaseException", .type "object"] "ValueError.__new__",
  fun K => LKH.xinB K (He.ga K "InvalidNames"),
  fun K => LKH.chainB K (He.ga K "InvalidText") [.ref (He.ga K "LastheldError"), .type "ValueError", .type "Exception", .type "BaseException", .type "object"] "ValueError.__new__",
  fun K => LKH.xinB K (He.ga K "InvalidText"),
  fun K => LKH.chainB K (He.ga K "InvalidCommand") [.ref (He.ga K "LastheldError"), .type "ValueError", .type "Exception", .type "BaseException", .type "object"] "ValueError.__new__",
  fun K => LKH.xinB K (He.ga K "InvalidCommand"),
  fun K => LKH.chainB K (He.ga K "UnknownField") [.ref (He.ga K "MissingError"), .type "LookupError", .type "Exception", .type "BaseException", .type "object"] "LookupError.__new__",
  fun K => LKH.xinB K (He.ga K "UnknownField"),
  fun K => LKH.chainB K (He.ga K "UnknownReplica") [.ref (He.ga K "MissingError"), .type "LookupError", .type "Exception", .type "BaseException", .type "object"] "LookupError.__new__",
  fun K => LKH.xinB K (He.ga K "UnknownReplica"),
  fun K => LKH.chainB K (He.ga K "UnknownMessage") [.ref (He.ga K "MissingError"), .type "LookupError", .type "Exception", .type "BaseException", .type "object"] "LookupError.__new__",
  fun K => LKH.xinB K (He.ga K "UnknownMessage"),
  fun K => LKH.chainB K (He.ga K "NotFree") [.ref (He.ga K "StateError"), .type "RuntimeError", .type "Exception", .type "BaseException", .type "object"] "RuntimeError.__new__",
  fun K => LKH.xinB K (He.ga K "NotFree"),
  fun K => LKH.chainB K (He.ga K "NotDetermined") [.ref (He.ga K "StateError"), .type "RuntimeError", .type "Exception", .type "BaseException", .type "object"] "RuntimeError.__new__",
  fun K => LKH.xinB K (He.ga K "NotDetermined"),
  fun K => LKH.chainB K (He.ga K "OtherSheet") [.ref (He.ga K "StateError"), .type "RuntimeError", .type "Exception", .type "BaseException", .type "object"] "RuntimeError.__new__",
  fun K => LKH.xinB K (He.ga K "OtherSheet"),
  fun K => LKH.chainB K (He.ga K "Refused") [.ref (He.ga K "StateError"), .type "RuntimeError", .type "Exception", .type "BaseException", .type "object"] "RuntimeError.__new__",
  fun K => LKH.xinB K (He.ga K "Refused"),
  fun K => LKH.chainB K (He.ga K "Impossible") [.ref (He.ga K "StateError"), .type "RuntimeError", .type "Exception", .type "BaseException", .type "object"] "RuntimeError.__new__",
  fun K => LKH.xinB K (He.ga K "Impossible"),
  fun K => LKH.chainB K (He.ga K "RunFailed") [.ref (He.ga K "StateError"), .type "RuntimeError", .type "Exception", .type "BaseException", .type "object"] "RuntimeError.__new__",
  fun K => LKH.xinB K (He.ga K "RunFailed"),
  fun K => PySem.W.excIn K (He.ga K "NothingToTakeBack") [.type "RuntimeError", .type "Exception", .type "BaseException", .type "object"] "RuntimeError.__new__",
  fun K => LKH.chainB K (He.ga K "TooMany") [.ref (He.ga K "LimitError"), .type "ArithmeticError", .type "Exception", .type "BaseException", .type "object"] "ArithmeticError.__new__"] : List (PySem.W.Frag → Bool)) ++ ([fun K => LKH.xinB K (He.ga K "TooMany"),
  fun K => LKH.chainB K (He.ga K "NoQuotient") [.ref (He.ga K "LimitError"), .type "ArithmeticError", .type "Exception", .type "BaseException", .type "object"] "ArithmeticError.__new__",
  fun K => LKH.xinB K (He.ga K "NoQuotient"),
  fun K => PySem.W.excIn K (He.ga K "LastheldError") [.type "ValueError", .type "Exception", .type "BaseException", .type "object"] "ValueError.__new__",
  fun K => PySem.W.excIn K (He.ga K "MissingError") [.type "LookupError", .type "Exception", .type "BaseException", .type "object"] "LookupError.__new__",
  fun K => PySem.W.excIn K (He.ga K "StateError") [.type "RuntimeError", .type "Exception", .type "BaseException", .type "object"] "RuntimeError.__new__",
  fun K => PySem.W.excIn K (He.ga K "LimitError") [.type "ArithmeticError", .type "Exception", .type "BaseException", .type "object"] "ArithmeticError.__new__",
  fun K => xallB K [(He.ga K "InvalidName"), (He.ga K "InvalidNumber"), (He.ga K "InvalidLevel"), (He.ga K "InvalidClock"), (He.ga K "InvalidCount"), (He.ga K "InvalidFields"), (He.ga K "InvalidEquation"), (He.ga K "InvalidEquations"), (He.ga K "InvalidSetting"), (He.ga K "InvalidSettings"), (He.ga K "InvalidPairs"), (He.ga K "InvalidWishes"), (He.ga K "InvalidNames"), (He.ga K "InvalidText"), (He.ga K "InvalidCommand"), (He.ga K "UnknownField"), (He.ga K "UnknownReplica"), (He.ga K "UnknownMessage"), (He.ga K "NotFree"), (He.ga K "NotDetermined"), (He.ga K "OtherSheet"), (He.ga K "Refused"), (He.ga K "Impossible"), (He.ga K "RunFailed"), (He.ga K "NothingToTakeBack"), (He.ga K "TooMany"), (He.ga K "NoQuotient"), (He.ga K "LastheldError"), (He.ga K "MissingError"), (He.ga K "StateError"), (He.ga K "LimitError")]] : List (PySem.W.Frag → Bool))
def ghC : LKH.Fcts := ⟨ghFa, ghFn, ghBs⟩
abbrev ghR : PySem.W.OpenRow := PySem.W.OpenLaw.row PySem.Challenge.rw_lastheld_k18_errors_made
theorem gh_run (w : World) : HandSHeadRun.RunEq ghR (PySem.W.view ghR.prog [43]) (LKH.hookF 60000 ghC) (LKH.obF 60000 ghC) 60000 ghLoose w := by
  intro os
  kernel_rfl
theorem all_mk {l : PySem.W.OpenLaw} {w : World} {K : PySem.W.Frag} {h : Heap} {mg : Str → Option Value} {fa : Addr} (X : K.In h) (G : h.Ns mainGlobals mg) (hfa : mg "law" = some (.ref fa)) (c : ghC.Says K) :
    ∃ fd : FuncData, (∀ (s : Shared) (v : Value), BindsTo s fd ⟨[v], []⟩ [("_law_script", v)]) ∧ ∀ base : Heap, K.In base → base.Ns mainGlobals mg → FnG l.prog w K mg base CX0 4 fa fd ["_law_script"] (spLaw K) := by
  have e := hfa.symm.trans (He.glo_ok X G (c.fact 88 (f := .glo "law") rfl))
  cases e
  obtain ⟨fd_l_pot, Z_l_pot⟩ : ∃ fd, FunD K "_law_pot" "_law_pot" (defArgs s_l_pot) (defBody s_l_pot) (defScope s_l_pot) [] [] (He.ga K "_law_pot") fd := c.def_ 0 (d := gd_l_pot) rfl
  obtain ⟨fd_l_draw, Z_l_draw⟩ : ∃ fd, FunD K "_law_draw" "_law_draw" (defArgs s_l_draw) (defBody s_l_draw) (defScope s_l_draw) [] [] (He.ga K "_law_draw") fd := c.def_ 1 (d := gd_l_draw) rfl
  obtain ⟨fd_l_odd, Z_l_odd⟩ : ∃ fd, FunD K "_law_odd" "_law_odd" (defArgs s_l_odd) (defBody s_l_odd) (defScope s_l_odd) [] [] (He.ga K "_law_odd") fd := c.def_ 2 (d := gd_l_odd) rfl
  obtain ⟨fd_l_flags, Z_l_flags⟩ : ∃ fd, FunD K "_law_flags" "_law_flags" (defArgs s_l_flags) (defBody s_l_flags) (defScope s_l_flags) [] [] (He.ga K "_law_flags") fd := c.def_ 3 (d := gd_l_flags) rfl
  obtain ⟨fd_l_bases, Z_l_bases⟩ : ∃ fd, FunD K "_law_bases" "_law_bases" (defArgs s_l_bases) (defBody s_l_bases) (defScope s_l_bases) [] [] (He.ga K "_law_bases") fd := c.def_ 4 (d := gd_l_bases) rfl
  obtain ⟨fd_l_is, Z_l_is⟩ : ∃ fd, FunD K "_law_is" "_law_is" (defArgs s_l_is) (defBody s_l_is) (defScope s_l_is) [] [] (He.ga K "_law_is") fd := c.def_ 5 (d := gd_l_is) rfl
  obtain ⟨fd_l_values_right, Z_l_values_right⟩ : ∃ fd, FunD K "_law_values_right" "_law_values_right" (defArgs s_l_values_right) (defBody s_l_values_right) (defScope s_l_values_right) [] [] (He.ga K "_law_values_right") fd := c.def_ 6 (d := gd_l_values_right) rfl
  obtain ⟨fd_l_places_right, Z_l_places_right⟩ : ∃ fd, FunD K "_law_places_right" "_law_places_right" (defArgs s_l_places_right) (defBody s_l_places_right) (defScope s_l_places_right) [] [] (He.ga K "_law_places_right") fd := c.def_ 7 (d := gd_l_places_right) rfl
  obtain ⟨fd_l_others_right, Z_l_others_right⟩ : ∃ fd, FunD K "_law_others_right" "_law_others_right" (defArgs s_l_others_right) (defBody s_l_others_right) (defScope s_l_others_right) [] [] (He.ga K "_law_others_right") fd := c.def_ 8 (d := gd_l_others_right) rfl
  obtain ⟨fd_l_plain_right, Z_l_plain_right⟩ : ∃ fd, FunD K "_law_plain_right" "_law_plain_right" (defArgs s_l_plain_right) (defBody s_l_plain_right) (defScope s_l_plain_right) [] [] (He.ga K "_law_plain_right") fd := c.def_ 9 (d := gd_l_plain_right) rfl
  obtain ⟨fd_law, Z_law⟩ : ∃ fd, FunD K "law" "law" (defArgs s_law) (defBody s_law) (defScope s_law) [] [] (He.ga K "law") fd := c.def_ 10 (d := gd_law) rfl
  have occ := c.bool 0 (b := fun K => LKH.occB K) rfl
  obtain ⟨fd_InvalidName___init__, Z_InvalidName___init__⟩ : ∃ fd, FunD K "__init__" "InvalidName.__init__" (defArgs s_InvalidName___init__) (defBody s_InvalidName___init__) (defScope s_InvalidName___init__) [] [] (He.ma K (He.ga K "InvalidName") "__init__") fd := c.def_ 11 (d := gd_InvalidName___init__) rfl
  have EF_InvalidName := LKH.excB_ok (C := (He.ga K "InvalidName")) occ (c.bool 1 (b := fun K => LKH.excB K (He.ga K "InvalidName")) rfl)
  obtain ⟨fd_InvalidNumber___init__, Z_InvalidNumber___init__⟩ : ∃ fd, FunD K "__init__" "InvalidNumber.__init__" (defArgs s_InvalidNumber___init__) (defBody s_InvalidNumber___init__) (defScope s_InvalidNumber___init__) [] [] (He.ma K (He.ga K "InvalidNumber") "__init__") fd := c.def_ 12 (d := gd_InvalidNumber___init__) rfl
  have EF_InvalidNumber := LKH.excB_ok (C := (He.ga K "InvalidNumber")) occ (c.bool 2 (b := fun K => LKH.excB K (He.ga K "InvalidNumber")) rfl)
  obtain ⟨fd_InvalidLevel___init__, Z_InvalidLevel___init__⟩ : ∃ fd, FunD K "__init__" "InvalidLevel.__init__" (defArgs s_InvalidLevel___init__) (defBody s_InvalidLevel___init__) (defScope s_InvalidLevel___init__) [] [] (He.ma K (He.ga K "InvalidLevel") "__init__") fd := c.def_ 13 (d := gd_InvalidLevel___init__) rfl
  have EF_InvalidLevel := LKH.excB_ok (C := (He.ga K "InvalidLevel")) occ (c.bool 3 (b := fun K => LKH.excB K (He.ga K "InvalidLevel")) rfl)
  obtain ⟨fd_InvalidClock___init__, Z_InvalidClock___init__⟩ : ∃ fd, FunD K "__init__" "InvalidClock.__init__" (defArgs s_InvalidClock___init__) (defBody s_InvalidClock___init__) (defScope s_InvalidClock___init__) [] [] (He.ma K (He.ga K "InvalidClock") "__init__") fd := c.def_ 14 (d := gd_InvalidClock___init__) rfl
  have EF_InvalidClock := LKH.excB_ok (C := (He.ga K "InvalidClock")) occ (c.bool 4 (b := fun K => LKH.excB K (He.ga K "InvalidClock")) rfl)
  obtain ⟨fd_InvalidCount___init__, Z_InvalidCount___init__⟩ : ∃ fd, FunD K "__init__" "InvalidCount.__init__" (defArgs s_InvalidCount___init__) (defBody s_InvalidCount___init__) (defScope s_InvalidCount___init__) [] [] (He.ma K (He.ga K "InvalidCount") "__init__") fd := c.def_ 15 (d := gd_InvalidCount___init__) rfl
  have EF_InvalidCount := LKH.excB_ok (C := (He.ga K "InvalidCount")) occ (c.bool 5 (b := fun K => LKH.excB K (He.ga K "InvalidCount")) rfl)
  obtain ⟨fd_InvalidFields___init__, Z_InvalidFields___init__⟩ : ∃ fd, FunD K "__init__" "InvalidFields.__init__" (defArgs s_InvalidFields___init__) (defBody s_InvalidFields___init__) (defScope s_InvalidFields___init__) [] [] (He.ma K (He.ga K "InvalidFields") "__init__") fd := c.def_ 16 (d := gd_InvalidFields___init__) rfl
  have EF_InvalidFields := LKH.excB_ok (C := (He.ga K "InvalidFields")) occ (c.bool 6 (b := fun K => LKH.excB K (He.ga K "InvalidFields")) rfl)
  obtain ⟨fd_InvalidEquation___init__, Z_InvalidEquation___init__⟩ : ∃ fd, FunD K "__init__" "InvalidEquation.__init__" (defArgs s_InvalidEquation___init__) (defBody s_InvalidEquation___init__) (defScope s_InvalidEquation___init__) [] [] (He.ma K (He.ga K "InvalidEquation") "__init__") fd := c.def_ 17 (d := gd_InvalidEquation___init__) rfl
  have EF_InvalidEquation := LKH.excB_ok (C := (He.ga K "InvalidEquation")) occ (c.bool 7 (b := fun K => LKH.excB K (He.ga K "InvalidEquation")) rfl)
  obtain ⟨fd_InvalidEquations___init__, Z_InvalidEquations___init__⟩ : ∃ fd, FunD K "__init__" "InvalidEquations.__init__" (defArgs s_InvalidEquations___init__) (defBody s_InvalidEquations___init__) (defScope s_InvalidEquations___init__) [] [] (He.ma K (He.ga K "InvalidEquations") "__init__") fd := c.def_ 18 (d := gd_InvalidEquations___init__) rfl
  have EF_InvalidEquations := LKH.excB_ok (C := (He.ga K "InvalidEquations")) occ (c.bool 8 (b := fun K => LKH.excB K (He.ga K "InvalidEquations")) rfl)
  obtain ⟨fd_InvalidSetting___init__, Z_InvalidSetting___init__⟩ : ∃ fd, FunD K "__init__" "InvalidSetting.__init__" (defArgs s_InvalidSetting___init__) (defBody s_InvalidSetting___init__) (defScope s_InvalidSetting___init__) [] [] (He.ma K (He.ga K "InvalidSetting") "__init__") fd := c.def_ 19 (d := gd_InvalidSetting___init__) rfl
  have EF_InvalidSetting := LKH.excB_ok (C := (He.ga K "InvalidSetting")) occ (c.bool 9 (b := fun K => LKH.excB K (He.ga K "InvalidSetting")) rfl)
  obtain ⟨fd_InvalidSettings___init__, Z_InvalidSettings___init__⟩ : ∃ fd, FunD K "__init__" "InvalidSettings.__init__" (defArgs s_InvalidSettings___init__) (defBody s_InvalidSettings___init__) (defScope s_InvalidSettings___init__) [] [] (He.ma K (He.ga K "InvalidSettings") "__init__") fd := c.def_ 20 (d := gd_InvalidSettings___init__) rfl
  have EF_InvalidSettings := LKH.excB_ok (C := (He.ga K "InvalidSettings")) occ (c.bool 10 (b := fun K => LKH.excB K (He.ga K "InvalidSettings")) rfl)
  obtain ⟨fd_InvalidPairs___init__, Z_InvalidPairs___init__⟩ : ∃ fd, FunD K "__init__" "InvalidPairs.__init__" (defArgs s_InvalidPairs___init__) (defBody s_InvalidPairs___init__) (defScope s_InvalidPairs___init__) [] [] (He.ma K (He.ga K "InvalidPairs") "__init__") fd := c.def_ 21 (d := gd_InvalidPairs___init__) rfl
  have EF_InvalidPairs := LKH.excB_ok (C := (He.ga K "InvalidPairs")) occ (c.bool 11 (b := fun K => LKH.excB K (He.ga K "InvalidPairs")) rfl)
  obtain ⟨fd_InvalidWishes___init__, Z_InvalidWishes___init__⟩ : ∃ fd, FunD K "__init__" "InvalidWishes.__init__" (defArgs s_InvalidWishes___init__) (defBody s_InvalidWishes___init__) (defScope s_InvalidWishes___init__) [] [] (He.ma K (He.ga K "InvalidWishes") "__init__") fd := c.def_ 22 (d := gd_InvalidWishes___init__) rfl
  have EF_InvalidWishes := LKH.excB_ok (C := (He.ga K "InvalidWishes")) occ (c.bool 12 (b := fun K => LKH.excB K (He.ga K "InvalidWishes")) rfl)
  obtain ⟨fd_InvalidNames___init__, Z_InvalidNames___init__⟩ : ∃ fd, FunD K "__init__" "InvalidNames.__init__" (defArgs s_InvalidNames___init__) (defBody s_InvalidNames___init__) (defScope s_InvalidNames___init__) [] [] (He.ma K (He.ga K "InvalidNames") "__init__") fd := c.def_ 23 (d := gd_InvalidNames___init__) rfl
  have EF_InvalidNames := LKH.excB_ok (C := (He.ga K "InvalidNames")) occ (c.bool 13 (b := fun K => LKH.excB K (He.ga K "InvalidNames")) rfl)
  obtain ⟨fd_InvalidText___init__, Z_InvalidText___init__⟩ : ∃ fd, FunD K "__init__" "InvalidText.__init__" (defArgs s_InvalidText___init__) (defBody s_InvalidText___init__) (defScope s_InvalidText___init__) [] [] (He.ma K (He.ga K "InvalidText") "__init__") fd := c.def_ 24 (d := gd_InvalidText___init__) rfl
  have EF_InvalidText := LKH.excB_ok (C := (He.ga K "InvalidText")) occ (c.bool 14 (b := fun K => LKH.excB K (He.ga K "InvalidText")) rfl)
  obtain ⟨fd_InvalidCommand___init__, Z_InvalidCommand___init__⟩ : ∃ fd, FunD K "__init__" "InvalidCommand.__init__" (defArgs s_InvalidCommand___init__) (defBody s_InvalidCommand___init__) (defScope s_InvalidCommand___init__) [] [] (He.ma K (He.ga K "InvalidCommand") "__init__") fd := c.def_ 25 (d := gd_InvalidCommand___init__) rfl
  have EF_InvalidCommand := LKH.excB_ok (C := (He.ga K "InvalidCommand")) occ (c.bool 15 (b := fun K => LKH.excB K (He.ga K "InvalidCommand")) rfl)
  obtain ⟨fd_UnknownField___init__, Z_UnknownField___init__⟩ : ∃ fd, FunD K "__init__" "UnknownField.__init__" (defArgs s_UnknownField___init__) (defBody s_UnknownField___init__) (defScope s_UnknownField___init__) [] [] (He.ma K (He.ga K "UnknownField") "__init__") fd := c.def_ 26 (d := gd_UnknownField___init__) rfl
  have EF_UnknownField := LKH.excB_ok (C := (He.ga K "UnknownField")) occ (c.bool 16 (b := fun K => LKH.excB K (He.ga K "UnknownField")) rfl)
  obtain ⟨fd_UnknownReplica___init__, Z_UnknownReplica___init__⟩ : ∃ fd, FunD K "__init__" "UnknownReplica.__init__" (defArgs s_UnknownReplica___init__) (defBody s_UnknownReplica___init__) (defScope s_UnknownReplica___init__) [] [] (He.ma K (He.ga K "UnknownReplica") "__init__") fd := c.def_ 27 (d := gd_UnknownReplica___init__) rfl
  have EF_UnknownReplica := LKH.excB_ok (C := (He.ga K "UnknownReplica")) occ (c.bool 17 (b := fun K => LKH.excB K (He.ga K "UnknownReplica")) rfl)
  obtain ⟨fd_UnknownMessage___init__, Z_UnknownMessage___init__⟩ : ∃ fd, FunD K "__init__" "UnknownMessage.__init__" (defArgs s_UnknownMessage___init__) (defBody s_UnknownMessage___init__) (defScope s_UnknownMessage___init__) [] [] (He.ma K (He.ga K "UnknownMessage") "__init__") fd := c.def_ 28 (d := gd_UnknownMessage___init__) rfl
  have EF_UnknownMessage := LKH.excB_ok (C := (He.ga K "UnknownMessage")) occ (c.bool 18 (b := fun K => LKH.excB K (He.ga K "UnknownMessage")) rfl)
  obtain ⟨fd_NotFree___init__, Z_NotFree___init__⟩ : ∃ fd, FunD K "__init__" "NotFree.__init__" (defArgs s_NotFree___init__) (defBody s_NotFree___init__) (defScope s_NotFree___init__) [] [] (He.ma K (He.ga K "NotFree") "__init__") fd := c.def_ 29 (d := gd_NotFree___init__) rfl
  have EF_NotFree := LKH.excB_ok (C := (He.ga K "NotFree")) occ (c.bool 19 (b := fun K => LKH.excB K (He.ga K "NotFree")) rfl)
  obtain ⟨fd_NotDetermined___init__, Z_NotDetermined___init__⟩ : ∃ fd, FunD K "__init__" "NotDetermined.__init__" (defArgs s_NotDetermined___init__) (defBody s_NotDetermined___init__) (defScope s_NotDetermined___init__) [] [] (He.ma K (He.ga K "NotDetermined") "__init__") fd := c.def_ 30 (d := gd_NotDetermined___init__) rfl
  have EF_NotDetermined := LKH.excB_ok (C := (He.ga K "NotDetermined")) occ (c.bool 20 (b := fun K => LKH.excB K (He.ga K "NotDetermined")) rfl)
  obtain ⟨fd_OtherSheet___init__, Z_OtherSheet___init__⟩ : ∃ fd, FunD K "__init__" "OtherSheet.__init__" (defArgs s_OtherSheet___init__) (defBody s_OtherSheet___init__) (defScope s_OtherSheet___init__) [] [] (He.ma K (He.ga K "OtherSheet") "__init__") fd := c.def_ 31 (d := gd_OtherSheet___init__) rfl
  have EF_OtherSheet := LKH.excB_ok (C := (He.ga K "OtherSheet")) occ (c.bool 21 (b := fun K => LKH.excB K (He.ga K "OtherSheet")) rfl)
  obtain ⟨fd_Refused___init__, Z_Refused___init__⟩ : ∃ fd, FunD K "__init__" "Refused.__init__" (defArgs s_Refused___init__) (defBody s_Refused___init__) (defScope s_Refused___init__) [] [] (He.ma K (He.ga K "Refused") "__init__") fd := c.def_ 32 (d := gd_Refused___init__) rfl
  have EF_Refused := LKH.excB_ok (C := (He.ga K "Refused")) occ (c.bool 22 (b := fun K => LKH.excB K (He.ga K "Refused")) rfl)
  obtain ⟨fd_Impossible___init__, Z_Impossible___init__⟩ : ∃ fd, FunD K "__init__" "Impossible.__init__" (defArgs s_Impossible___init__) (defBody s_Impossible___init__) (defScope s_Impossible___init__) [] [] (He.ma K (He.ga K "Impossible") "__init__") fd := c.def_ 33 (d := gd_Impossible___init__) rfl
  have EF_Impossible := LKH.excB_ok (C := (He.ga K "Impossible")) occ (c.bool 23 (b := fun K => LKH.excB K (He.ga K "Impossible")) rfl)
  obtain ⟨fd_RunFailed___init__, Z_RunFailed___init__⟩ : ∃ fd, FunD K "__init__" "RunFailed.__init__" (defArgs s_RunFailed___init__) (defBody s_RunFailed___init__) (defScope s_RunFailed___init__) [] [] (He.ma K (He.ga K "RunFailed") "__init__") fd := c.def_ 34 (d := gd_RunFailed___init__) rfl
  have EF_RunFailed := LKH.excB_ok (C := (He.ga K "RunFailed")) occ (c.bool 24 (b := fun K => LKH.excB K (He.ga K "RunFailed")) rfl)
  have EF_NothingToTakeBack := LKH.excB_ok (C := (He.ga K "NothingToTakeBack")) occ (c.bool 25 (b := fun K => LKH.excB K (He.ga K "NothingToTakeBack")) rfl)
  obtain ⟨fd_TooMany___init__, Z_TooMany___init__⟩ : ∃ fd, FunD K "__init__" "TooMany.__init__" (defArgs s_TooMany___init__) (defBody s_TooMany___init__) (defScope s_TooMany___init__) [] [] (He.ma K (He.ga K "TooMany") "__init__") fd := c.def_ 35 (d := gd_TooMany___init__) rfl
  have EF_TooMany := LKH.excB_ok (C := (He.ga K "TooMany")) occ (c.bool 26 (b := fun K => LKH.excB K (He.ga K "TooMany")) rfl)
  obtain ⟨fd_NoQuotient___init__, Z_NoQuotient___init__⟩ : ∃ fd, FunD K "__init__" "NoQuotient.__init__" (defArgs s_NoQuotient___init__) (defBody s_NoQuotient___init__) (defScope s_NoQuotient___init__) [] [] (He.ma K (He.ga K "NoQuotient") "__init__") fd := c.def_ 36 (d := gd_NoQuotient___init__) rfl
  have EF_NoQuotient := LKH.excB_ok (C := (He.ga K "NoQuotient")) occ (c.bool 27 (b := fun K => LKH.excB K (He.ga K "NoQuotient")) rfl)
  have EF_LastheldError := LKH.excB_ok (C := (He.ga K "LastheldError")) occ (c.bool 28 (b := fun K => LKH.excB K (He.ga K "LastheldError")) rfl)
  have EF_MissingError := LKH.excB_ok (C := (He.ga K "MissingError")) occ (c.bool 29 (b := fun K => LKH.excB K (He.ga K "MissingError")) rfl)
  have EF_StateError := LKH.excB_ok (C := (He.ga K "StateError")) occ (c.bool 30 (b := fun K => LKH.excB K (He.ga K "StateError")) rfl)
  have EF_LimitError := LKH.excB_ok (C := (He.ga K "LimitError")) occ (c.bool 31 (b := fun K => LKH.excB K (He.ga K "LimitError")) rfl)
  have T : Txt K mg ⟨(He.ga K "LastheldError"), (He.ga K "MissingError"), (He.ga K "StateError"), (He.ga K "LimitError"), (He.ga K "InvalidName"), (He.ga K "InvalidNumber"), (He.ga K "InvalidLevel"), (He.ga K "InvalidClock"), (He.ga K "InvalidCount"), (He.ga K "InvalidFields"), (He.ga K "InvalidEquation"), (He.ga K "InvalidEquations"), (He.ga K "InvalidSetting"), (He.ga K "InvalidSettings"), (He.ga K "InvalidPairs"), (He.ga K "InvalidWishes"), (He.ga K "InvalidNames"), (He.ga K "InvalidText"), (He.ga K "InvalidCommand"), (He.ga K "UnknownField"), (He.ga K "UnknownReplica"), (He.ga K "UnknownMessage"), (He.ga K "NotFree"), (He.ga K "NotDetermined"), (He.ga K "OtherSheet"), (He.ga K "Refused"), (He.ga K "Impossible"), (He.ga K "RunFailed"), (He.ga K "NothingToTakeBack"), (He.ga K "TooMany"), (He.ga K "NoQuotient")⟩ := ⟨trivial, He.free_ok X G (c.fact 0 (f := .free "ArithmeticError") rfl),
    He.free_ok X G (c.fact 1 (f := .free "IndexError") rfl),
    He.free_ok X G (c.fact 2 (f := .free "KeyError") rfl),
    He.free_ok X G (c.fact 3 (f := .free "LookupError") rfl),
    He.free_ok X G (c.fact 4 (f := .free "RuntimeError") rfl),
    He.free_ok X G (c.fact 5 (f := .free "ValueError") rfl),
    He.free_ok X G (c.fact 6 (f := .free "abs") rfl),
    He.free_ok X G (c.fact 7 (f := .free "divmod") rfl),
    He.free_ok X G (c.fact 8 (f := .free "enumerate") rfl),
    He.free_ok X G (c.fact 9 (f := .free "isinstance") rfl),
    He.free_ok X G (c.fact 10 (f := .free "len") rfl),
    He.free_ok X G (c.fact 11 (f := .free "list") rfl),
    He.free_ok X G (c.fact 12 (f := .free "max") rfl),
    He.free_ok X G (c.fact 13 (f := .free "min") rfl),
    He.free_ok X G (c.fact 14 (f := .free "range") rfl),
    He.free_ok X G (c.fact 15 (f := .free "repr") rfl),
    He.free_ok X G (c.fact 16 (f := .free "zip") rfl),
    He.glo_ok X G (c.fact 17 (f := .glo "LastheldError") rfl),
    He.glo_ok X G (c.fact 18 (f := .glo "MissingError") rfl),
    He.glo_ok X G (c.fact 19 (f := .glo "StateError") rfl),
    He.glo_ok X G (c.fact 20 (f := .glo "LimitError") rfl),
    He.glo_ok X G (c.fact 21 (f := .glo "InvalidName") rfl),
    He.glo_ok X G (c.fact 22 (f := .glo "InvalidNumber") rfl),
    He.glo_ok X G (c.fact 23 (f := .glo "InvalidLevel") rfl),
    He.glo_ok X G (c.fact 24 (f := .glo "InvalidClock") rfl),
    He.glo_ok X G (c.fact 25 (f := .glo "InvalidCount") rfl),
    He.glo_ok X G (c.fact 26 (f := .glo "InvalidFields") rfl),
    He.glo_ok X G (c.fact 27 (f := .glo "InvalidEquation") rfl),
    He.glo_ok X G (c.fact 28 (f := .glo "InvalidEquations") rfl),
    He.glo_ok X G (c.fact 29 (f := .glo "InvalidSetting") rfl),
    He.glo_ok X G (c.fact 30 (f := .glo "InvalidSettings") rfl),
    He.glo_ok X G (c.fact 31 (f := .glo "InvalidPairs") rfl),
    He.glo_ok X G (c.fact 32 (f := .glo "InvalidWishes") rfl),
    He.glo_ok X G (c.fact 33 (f := .glo "InvalidNames") rfl),
    He.glo_ok X G (c.fact 34 (f := .glo "InvalidText") rfl),
    He.glo_ok X G (c.fact 35 (f := .glo "InvalidCommand") rfl),
    He.glo_ok X G (c.fact 36 (f := .glo "UnknownField") rfl),
    He.glo_ok X G (c.fact 37 (f := .glo "UnknownReplica") rfl),
    He.glo_ok X G (c.fact 38 (f := .glo "UnknownMessage") rfl),
    He.glo_ok X G (c.fact 39 (f := .glo "NotFree") rfl),
    He.glo_ok X G (c.fact 40 (f := .glo "NotDetermined") rfl),
    He.glo_ok X G (c.fact 41 (f := .glo "OtherSheet") rfl),
    He.glo_ok X G (c.fact 42 (f := .glo "Refused") rfl),
    He.glo_ok X G (c.fact 43 (f := .glo "Impossible") rfl),
    He.glo_ok X G (c.fact 44 (f := .glo "RunFailed") rfl),
    He.glo_ok X G (c.fact 45 (f := .glo "NothingToTakeBack") rfl),
    He.glo_ok X G (c.fact 46 (f := .glo "TooMany") rfl),
    He.glo_ok X G (c.fact 47 (f := .glo "NoQuotient") rfl),
    ⟨He.glo_ok X G (c.fact 17 (f := .glo "LastheldError") rfl), LKH.rd_of (c.bool 32 (b := fun K => LKH.rdB K (He.ga K "LastheldError")) rfl), LKH.init_of (c.bool 33 (b := fun K => LKH.initB K (He.ga K "LastheldError") "ValueError.__init__") rfl), by decide +kernel⟩,
    ⟨He.glo_ok X G (c.fact 20 (f := .glo "LimitError") rfl), LKH.rd_of (c.bool 34 (b := fun K => LKH.rdB K (He.ga K "LimitError")) rfl), LKH.init_of (c.bool 35 (b := fun K => LKH.initB K (He.ga K "LimitError") "ArithmeticError.__init__") rfl), by decide +kernel⟩,
    ⟨He.glo_ok X G (c.fact 18 (f := .glo "MissingError") rfl), LKH.rd_of (c.bool 36 (b := fun K => LKH.rdB K (He.ga K "MissingError")) rfl), LKH.init_of (c.bool 37 (b := fun K => LKH.initB K (He.ga K "MissingError") "LookupError.__init__") rfl), by decide +kernel⟩,
    ⟨He.glo_ok X G (c.fact 19 (f := .glo "StateError") rfl), LKH.rd_of (c.bool 38 (b := fun K => LKH.rdB K (He.ga K "StateError")) rfl), LKH.init_of (c.bool 39 (b := fun K => LKH.initB K (He.ga K "StateError") "RuntimeError.__init__") rfl), by decide +kernel⟩,
    LKH.xcb_of EF_InvalidName (He.glo_ok X G (c.fact 21 (f := .glo "InvalidName") rfl)) tail_VE (c.bool 40 (b := fun K => LKH.chainB K (He.ga K "InvalidName") [.ref (He.ga K "LastheldError"), .type "ValueError", .type "Exception", .type "BaseException", .type "object"] "ValueError.__new__") rfl) ⟨[(He.ga K "LastheldError")], rfl⟩,
    He.noat_ok (x := "InvalidName") (c.fact 48 (f := .noat "InvalidName" "value") rfl),
    ⟨_, _, He.eqO_ok (He.ba (c.bool 41 (b := fun K => LKH.xinB K (He.ga K "InvalidName")) rfl)).1, of_decide_eq_true (He.ba (c.bool 41 (b := fun K => LKH.xinB K (He.ga K "InvalidName")) rfl)).2, He5.fun_of Z_InvalidName___init__⟩,
    LKH.xcb_of EF_InvalidNumber (He.glo_ok X G (c.fact 22 (f := .glo "InvalidNumber") rfl)) tail_VE (c.bool 42 (b := fun K => LKH.chainB K (He.ga K "InvalidNumber") [.ref (He.ga K "LastheldError"), .type "ValueError", .type "Exception", .type "BaseException", .type "object"] "ValueError.__new__") rfl) ⟨[(He.ga K "LastheldError")], rfl⟩,
    He.noat_ok (x := "InvalidNumber") (c.fact 49 (f := .noat "InvalidNumber" "value") rfl),
    ⟨_, _, He.eqO_ok (He.ba (c.bool 43 (b := fun K => LKH.xinB K (He.ga K "InvalidNumber")) rfl)).1, of_decide_eq_true (He.ba (c.bool 43 (b := fun K => LKH.xinB K (He.ga K "InvalidNumber")) rfl)).2, He5.fun_of Z_InvalidNumber___init__⟩,
    LKH.xcb_of EF_InvalidLevel (He.glo_ok X G (c.fact 23 (f := .glo "InvalidLevel") rfl)) tail_VE (c.bool 44 (b := fun K => LKH.chainB K (He.ga K "InvalidLevel") [.ref (He.ga K "LastheldError"), .type "ValueError", .type "Exception", .type "BaseException", .type "object"] "ValueError.__new__") rfl) ⟨[(He.ga K "LastheldError")], rfl⟩,
    He.noat_ok (x := "InvalidLevel") (c.fact 50 (f := .noat "InvalidLevel" "value") rfl),
    ⟨_, _, He.eqO_ok (He.ba (c.bool 45 (b := fun K => LKH.xinB K (He.ga K "InvalidLevel")) rfl)).1, of_decide_eq_true (He.ba (c.bool 45 (b := fun K => LKH.xinB K (He.ga K "InvalidLevel")) rfl)).2, He5.fun_of Z_InvalidLevel___init__⟩,
    LKH.xcb_of EF_InvalidClock (He.glo_ok X G (c.fact 24 (f := .glo "InvalidClock") rfl)) tail_VE (c.bool 46 (b := fun K => LKH.chainB K (He.ga K "InvalidClock") [.ref (He.ga K "LastheldError"), .type "ValueError", .type "Exception", .type "BaseException", .type "object"] "ValueError.__new__") rfl) ⟨[(He.ga K "LastheldError")], rfl⟩,
    He.noat_ok (x := "InvalidClock") (c.fact 51 (f := .noat "InvalidClock" "value") rfl),
    ⟨_, _, He.eqO_ok (He.ba (c.bool 47 (b := fun K => LKH.xinB K (He.ga K "InvalidClock")) rfl)).1, of_decide_eq_true (He.ba (c.bool 47 (b := fun K => LKH.xinB K (He.ga K "InvalidClock")) rfl)).2, He5.fun_of Z_InvalidClock___init__⟩,
    LKH.xcb_of EF_InvalidCount (He.glo_ok X G (c.fact 25 (f := .glo "InvalidCount") rfl)) tail_VE (c.bool 48 (b := fun K => LKH.chainB K (He.ga K "InvalidCount") [.ref (He.ga K "LastheldError"), .type "ValueError", .type "Exception", .type "BaseException", .type "object"] "ValueError.__new__") rfl) ⟨[(He.ga K "LastheldError")], rfl⟩,
    He.noat_ok (x := "InvalidCount") (c.fact 52 (f := .noat "InvalidCount" "value") rfl),
    ⟨_, _, He.eqO_ok (He.ba (c.bool 49 (b := fun K => LKH.xinB K (He.ga K "InvalidCount")) rfl)).1, of_decide_eq_true (He.ba (c.bool 49 (b := fun K => LKH.xinB K (He.ga K "InvalidCount")) rfl)).2, He5.fun_of Z_InvalidCount___init__⟩,
    LKH.xcb_of EF_InvalidFields (He.glo_ok X G (c.fact 26 (f := .glo "InvalidFields") rfl)) tail_VE (c.bool 50 (b := fun K => LKH.chainB K (He.ga K "InvalidFields") [.ref (He.ga K "LastheldError"), .type "ValueError", .type "Exception", .type "BaseException", .type "object"] "ValueError.__new__") rfl) ⟨[(He.ga K "LastheldError")], rfl⟩,
    He.noat_ok (x := "InvalidFields") (c.fact 53 (f := .noat "InvalidFields" "index") rfl),
    ⟨_, _, He.eqO_ok (He.ba (c.bool 51 (b := fun K => LKH.xinB K (He.ga K "InvalidFields")) rfl)).1, of_decide_eq_true (He.ba (c.bool 51 (b := fun K => LKH.xinB K (He.ga K "InvalidFields")) rfl)).2, He5.fun_of Z_InvalidFields___init__⟩,
    LKH.xcb_of EF_InvalidEquation (He.glo_ok X G (c.fact 27 (f := .glo "InvalidEquation") rfl)) tail_VE (c.bool 52 (b := fun K => LKH.chainB K (He.ga K "InvalidEquation") [.ref (He.ga K "LastheldError"), .type "ValueError", .type "Exception", .type "BaseException", .type "object"] "ValueError.__new__") rfl) ⟨[(He.ga K "LastheldError")], rfl⟩,
    He.noat_ok (x := "InvalidEquation") (c.fact 54 (f := .noat "InvalidEquation" "value") rfl),
    ⟨_, _, He.eqO_ok (He.ba (c.bool 53 (b := fun K => LKH.xinB K (He.ga K "InvalidEquation")) rfl)).1, of_decide_eq_true (He.ba (c.bool 53 (b := fun K => LKH.xinB K (He.ga K "InvalidEquation")) rfl)).2, He5.fun_of Z_InvalidEquation___init__⟩,
    LKH.xcb_of EF_InvalidEquations (He.glo_ok X G (c.fact 28 (f := .glo "InvalidEquations") rfl)) tail_VE (c.bool 54 (b := fun K => LKH.chainB K (He.ga K "InvalidEquations") [.ref (He.ga K "LastheldError"), .type "ValueError", .type "Exception", .type "BaseException", .type "object"] "ValueError.__new__") rfl) ⟨[(He.ga K "LastheldError")], rfl⟩,
    He.noat_ok (x := "InvalidEquations") (c.fact 55 (f := .noat "InvalidEquations" "index") rfl),
    ⟨_, _, He.eqO_ok (He.ba (c.bool 55 (b := fun K => LKH.xinB K (He.ga K "InvalidEquations")) rfl)).1, of_decide_eq_true (He.ba (c.bool 55 (b := fun K => LKH.xinB K (He.ga K "InvalidEquations")) rfl)).2, He5.fun_of Z_InvalidEquations___init__⟩,
    LKH.xcb_of EF_InvalidSetting (He.glo_ok X G (c.fact 29 (f := .glo "InvalidSetting") rfl)) tail_VE (c.bool 56 (b := fun K => LKH.chainB K (He.ga K "InvalidSetting") [.ref (He.ga K "LastheldError"), .type "ValueError", .type "Exception", .type "BaseException", .type "object"] "ValueError.__new__") rfl) ⟨[(He.ga K "LastheldError")], rfl⟩,
    He.noat_ok (x := "InvalidSetting") (c.fact 56 (f := .noat "InvalidSetting" "value") rfl),
    ⟨_, _, He.eqO_ok (He.ba (c.bool 57 (b := fun K => LKH.xinB K (He.ga K "InvalidSetting")) rfl)).1, of_decide_eq_true (He.ba (c.bool 57 (b := fun K => LKH.xinB K (He.ga K "InvalidSetting")) rfl)).2, He5.fun_of Z_InvalidSetting___init__⟩,
    LKH.xcb_of EF_InvalidSettings (He.glo_ok X G (c.fact 30 (f := .glo "InvalidSettings") rfl)) tail_VE (c.bool 58 (b := fun K => LKH.chainB K (He.ga K "InvalidSettings") [.ref (He.ga K "LastheldError"), .type "ValueError", .type "Exception", .type "BaseException", .type "object"] "ValueError.__new__") rfl) ⟨[(He.ga K "LastheldError")], rfl⟩,
    He.noat_ok (x := "InvalidSettings") (c.fact 57 (f := .noat "InvalidSettings" "index") rfl),
    ⟨_, _, He.eqO_ok (He.ba (c.bool 59 (b := fun K => LKH.xinB K (He.ga K "InvalidSettings")) rfl)).1, of_decide_eq_true (He.ba (c.bool 59 (b := fun K => LKH.xinB K (He.ga K "InvalidSettings")) rfl)).2, He5.fun_of Z_InvalidSettings___init__⟩,
    LKH.xcb_of EF_InvalidPairs (He.glo_ok X G (c.fact 31 (f := .glo "InvalidPairs") rfl)) tail_VE (c.bool 60 (b := fun K => LKH.chainB K (He.ga K "InvalidPairs") [.ref (He.ga K "LastheldError"), .type "ValueError", .type "Exception", .type "BaseException", .type "object"] "ValueError.__new__") rfl) ⟨[(He.ga K "LastheldError")], rfl⟩,
    He.noat_ok (x := "InvalidPairs") (c.fact 58 (f := .noat "InvalidPairs" "index") rfl),
    ⟨_, _, He.eqO_ok (He.ba (c.bool 61 (b := fun K => LKH.xinB K (He.ga K "InvalidPairs")) rfl)).1, of_decide_eq_true (He.ba (c.bool 61 (b := fun K => LKH.xinB K (He.ga K "InvalidPairs")) rfl)).2, He5.fun_of Z_InvalidPairs___init__⟩,
    LKH.xcb_of EF_InvalidWishes (He.glo_ok X G (c.fact 32 (f := .glo "InvalidWishes") rfl)) tail_VE (c.bool 62 (b := fun K => LKH.chainB K (He.ga K "InvalidWishes") [.ref (He.ga K "LastheldError"), .type "ValueError", .type "Exception", .type "BaseException", .type "object"] "ValueError.__new__") rfl) ⟨[(He.ga K "LastheldError")], rfl⟩,
    He.noat_ok (x := "InvalidWishes") (c.fact 59 (f := .noat "InvalidWishes" "index") rfl),
    ⟨_, _, He.eqO_ok (He.ba (c.bool 63 (b := fun K => LKH.xinB K (He.ga K "InvalidWishes")) rfl)).1, of_decide_eq_true (He.ba (c.bool 63 (b := fun K => LKH.xinB K (He.ga K "InvalidWishes")) rfl)).2, He5.fun_of Z_InvalidWishes___init__⟩,
    LKH.xcb_of EF_InvalidNames (He.glo_ok X G (c.fact 33 (f := .glo "InvalidNames") rfl)) tail_VE (c.bool 64 (b := fun K => LKH.chainB K (He.ga K "InvalidNames") [.ref (He.ga K "LastheldError"), .type "ValueError", .type "Exception", .type "BaseException", .type "object"] "ValueError.__new__") rfl) ⟨[(He.ga K "LastheldError")], rfl⟩,
    He.noat_ok (x := "InvalidNames") (c.fact 60 (f := .noat "InvalidNames" "index") rfl),
    ⟨_, _, He.eqO_ok (He.ba (c.bool 65 (b := fun K => LKH.xinB K (He.ga K "InvalidNames")) rfl)).1, of_decide_eq_true (He.ba (c.bool 65 (b := fun K => LKH.xinB K (He.ga K "InvalidNames")) rfl)).2, He5.fun_of Z_InvalidNames___init__⟩,
    LKH.xcb_of EF_InvalidText (He.glo_ok X G (c.fact 34 (f := .glo "InvalidText") rfl)) tail_VE (c.bool 66 (b := fun K => LKH.chainB K (He.ga K "InvalidText") [.ref (He.ga K "LastheldError"), .type "ValueError", .type "Exception", .type "BaseException", .type "object"] "ValueError.__new__") rfl) ⟨[(He.ga K "LastheldError")], rfl⟩,
    He.noat_ok (x := "InvalidText") (c.fact 61 (f := .noat "InvalidText" "line") rfl),
    ⟨_, _, He.eqO_ok (He.ba (c.bool 67 (b := fun K => LKH.xinB K (He.ga K "InvalidText")) rfl)).1, of_decide_eq_true (He.ba (c.bool 67 (b := fun K => LKH.xinB K (He.ga K "InvalidText")) rfl)).2, He5.fun_of Z_InvalidText___init__⟩,
    LKH.xcb_of EF_InvalidCommand (He.glo_ok X G (c.fact 35 (f := .glo "InvalidCommand") rfl)) tail_VE (c.bool 68 (b := fun K => LKH.chainB K (He.ga K "InvalidCommand") [.ref (He.ga K "LastheldError"), .type "ValueError", .type "Exception", .type "BaseException", .type "object"] "ValueError.__new__") rfl) ⟨[(He.ga K "LastheldError")], rfl⟩,
    He.noat_ok (x := "InvalidCommand") (c.fact 62 (f := .noat "InvalidCommand" "command") rfl),
    ⟨_, _, He.eqO_ok (He.ba (c.bool 69 (b := fun K => LKH.xinB K (He.ga K "InvalidCommand")) rfl)).1, of_decide_eq_true (He.ba (c.bool 69 (b := fun K => LKH.xinB K (He.ga K "InvalidCommand")) rfl)).2, He5.fun_of Z_InvalidCommand___init__⟩,
    LKH.xcb_of EF_UnknownField (He.glo_ok X G (c.fact 36 (f := .glo "UnknownField") rfl)) tail_LE (c.bool 70 (b := fun K => LKH.chainB K (He.ga K "UnknownField") [.ref (He.ga K "MissingError"), .type "LookupError", .type "Exception", .type "BaseException", .type "object"] "LookupError.__new__") rfl) ⟨[(He.ga K "MissingError")], rfl⟩,
    He.noat_ok (x := "UnknownField") (c.fact 63 (f := .noat "UnknownField" "value") rfl),
    ⟨_, _, He.eqO_ok (He.ba (c.bool 71 (b := fun K => LKH.xinB K (He.ga K "UnknownField")) rfl)).1, of_decide_eq_true (He.ba (c.bool 71 (b := fun K => LKH.xinB K (He.ga K "UnknownField")) rfl)).2, He5.fun_of Z_UnknownField___init__⟩,
    LKH.xcb_of EF_UnknownReplica (He.glo_ok X G (c.fact 37 (f := .glo "UnknownReplica") rfl)) tail_LE (c.bool 72 (b := fun K => LKH.chainB K (He.ga K "UnknownReplica") [.ref (He.ga K "MissingError"), .type "LookupError", .type "Exception", .type "BaseException", .type "object"] "LookupError.__new__") rfl) ⟨[(He.ga K "MissingError")], rfl⟩,
    He.noat_ok (x := "UnknownReplica") (c.fact 64 (f := .noat "UnknownReplica" "value") rfl),
    ⟨_, _, He.eqO_ok (He.ba (c.bool 73 (b := fun K => LKH.xinB K (He.ga K "UnknownReplica")) rfl)).1, of_decide_eq_true (He.ba (c.bool 73 (b := fun K => LKH.xinB K (He.ga K "UnknownReplica")) rfl)).2, He5.fun_of Z_UnknownReplica___init__⟩,
    LKH.xcb_of EF_UnknownMessage (He.glo_ok X G (c.fact 38 (f := .glo "UnknownMessage") rfl)) tail_LE (c.bool 74 (b := fun K => LKH.chainB K (He.ga K "UnknownMessage") [.ref (He.ga K "MissingError"), .type "LookupError", .type "Exception", .type "BaseException", .type "object"] "LookupError.__new__") rfl) ⟨[(He.ga K "MissingError")], rfl⟩,
    He.noat_ok (x := "UnknownMessage") (c.fact 65 (f := .noat "UnknownMessage" "value") rfl),
    ⟨_, _, He.eqO_ok (He.ba (c.bool 75 (b := fun K => LKH.xinB K (He.ga K "UnknownMessage")) rfl)).1, of_decide_eq_true (He.ba (c.bool 75 (b := fun K => LKH.xinB K (He.ga K "UnknownMessage")) rfl)).2, He5.fun_of Z_UnknownMessage___init__⟩,
    LKH.xcb_of EF_NotFree (He.glo_ok X G (c.fact 39 (f := .glo "NotFree") rfl)) tail_RE (c.bool 76 (b := fun K => LKH.chainB K (He.ga K "NotFree") [.ref (He.ga K "StateError"), .type "RuntimeError", .type "Exception", .type "BaseException", .type "object"] "RuntimeError.__new__") rfl) ⟨[(He.ga K "StateError")], rfl⟩,
    He.noat_ok (x := "NotFree") (c.fact 66 (f := .noat "NotFree" "given") rfl),
    ⟨_, _, He.eqO_ok (He.ba (c.bool 77 (b := fun K => LKH.xinB K (He.ga K "NotFree")) rfl)).1, of_decide_eq_true (He.ba (c.bool 77 (b := fun K => LKH.xinB K (He.ga K "NotFree")) rfl)).2, He5.fun_of Z_NotFree___init__⟩,
    LKH.xcb_of EF_NotDetermined (He.glo_ok X G (c.fact 40 (f := .glo "NotDetermined") rfl)) tail_RE (c.bool 78 (b := fun K => LKH.chainB K (He.ga K "NotDetermined") [.ref (He.ga K "StateError"), .type "RuntimeError", .type "Exception", .type "BaseException", .type "object"] "RuntimeError.__new__") rfl) ⟨[(He.ga K "StateError")], rfl⟩,
    He.noat_ok (x := "NotDetermined") (c.fact 67 (f := .noat "NotDetermined" "field") rfl),
    ⟨_, _, He.eqO_ok (He.ba (c.bool 79 (b := fun K => LKH.xinB K (He.ga K "NotDetermined")) rfl)).1, of_decide_eq_true (He.ba (c.bool 79 (b := fun K => LKH.xinB K (He.ga K "NotDetermined")) rfl)).2, He5.fun_of Z_NotDetermined___init__⟩,
    LKH.xcb_of EF_OtherSheet (He.glo_ok X G (c.fact 41 (f := .glo "OtherSheet") rfl)) tail_RE (c.bool 80 (b := fun K => LKH.chainB K (He.ga K "OtherSheet") [.ref (He.ga K "StateError"), .type "RuntimeError", .type "Exception", .type "BaseException", .type "object"] "RuntimeError.__new__") rfl) ⟨[(He.ga K "StateError")], rfl⟩,
    He.noat_ok (x := "OtherSheet") (c.fact 68 (f := .noat "OtherSheet" "index") rfl),
    ⟨_, _, He.eqO_ok (He.ba (c.bool 81 (b := fun K => LKH.xinB K (He.ga K "OtherSheet")) rfl)).1, of_decide_eq_true (He.ba (c.bool 81 (b := fun K => LKH.xinB K (He.ga K "OtherSheet")) rfl)).2, He5.fun_of Z_OtherSheet___init__⟩,
    LKH.xcb_of EF_Refused (He.glo_ok X G (c.fact 42 (f := .glo "Refused") rfl)) tail_RE (c.bool 82 (b := fun K => LKH.chainB K (He.ga K "Refused") [.ref (He.ga K "StateError"), .type "RuntimeError", .type "Exception", .type "BaseException", .type "object"] "RuntimeError.__new__") rfl) ⟨[(He.ga K "StateError")], rfl⟩,
    He.noat_ok (x := "Refused") (c.fact 69 (f := .noat "Refused" "field") rfl),
    He.noat_ok (x := "Refused") (c.fact 70 (f := .noat "Refused" "level") rfl),
    He.noat_ok (x := "Refused") (c.fact 71 (f := .noat "Refused" "cause") rfl),
    ⟨_, _, He.eqO_ok (He.ba (c.bool 83 (b := fun K => LKH.xinB K (He.ga K "Refused")) rfl)).1, of_decide_eq_true (He.ba (c.bool 83 (b := fun K => LKH.xinB K (He.ga K "Refused")) rfl)).2, He5.fun_of Z_Refused___init__⟩,
    LKH.xcb_of EF_Impossible (He.glo_ok X G (c.fact 43 (f := .glo "Impossible") rfl)) tail_RE (c.bool 84 (b := fun K => LKH.chainB K (He.ga K "Impossible") [.ref (He.ga K "StateError"), .type "RuntimeError", .type "Exception", .type "BaseException", .type "object"] "RuntimeError.__new__") rfl) ⟨[(He.ga K "StateError")], rfl⟩,
    He.noat_ok (x := "Impossible") (c.fact 72 (f := .noat "Impossible" "conflict") rfl),
    ⟨_, _, He.eqO_ok (He.ba (c.bool 85 (b := fun K => LKH.xinB K (He.ga K "Impossible")) rfl)).1, of_decide_eq_true (He.ba (c.bool 85 (b := fun K => LKH.xinB K (He.ga K "Impossible")) rfl)).2, He5.fun_of Z_Impossible___init__⟩,
    LKH.xcb_of EF_RunFailed (He.glo_ok X G (c.fact 44 (f := .glo "RunFailed") rfl)) tail_RE (c.bool 86 (b := fun K => LKH.chainB K (He.ga K "RunFailed") [.ref (He.ga K "StateError"), .type "RuntimeError", .type "Exception", .type "BaseException", .type "object"] "RuntimeError.__new__") rfl) ⟨[(He.ga K "StateError")], rfl⟩,
    He.noat_ok (x := "RunFailed") (c.fact 73 (f := .noat "RunFailed" "position") rfl),
    He.noat_ok (x := "RunFailed") (c.fact 74 (f := .noat "RunFailed" "results") rfl),
    ⟨_, _, He.eqO_ok (He.ba (c.bool 87 (b := fun K => LKH.xinB K (He.ga K "RunFailed")) rfl)).1, of_decide_eq_true (He.ba (c.bool 87 (b := fun K => LKH.xinB K (He.ga K "RunFailed")) rfl)).2, He5.fun_of Z_RunFailed___init__⟩,
    ⟨He.glo_ok X G (c.fact 45 (f := .glo "NothingToTakeBack") rfl), ⟨EF_NothingToTakeBack.is, EF_NothingToTakeBack.kp⟩, tail_RE.base, c.bool 88 (b := fun K => PySem.W.excIn K (He.ga K "NothingToTakeBack") [.type "RuntimeError", .type "Exception", .type "BaseException", .type "object"] "RuntimeError.__new__") rfl⟩,
    LKH.xcb_of EF_TooMany (He.glo_ok X G (c.fact 46 (f := .glo "TooMany") rfl)) tail_AE (c.bool 89 (b := fun K => LKH.chainB K (He.ga K "TooMany") [.ref (He.ga K "LimitError"), .type "ArithmeticError", .type "Exception", .type "BaseException", .type "object"] "ArithmeticError.__new__") rfl) ⟨[(He.ga K "LimitError")], rfl⟩,
    He.noat_ok (x := "TooMany") (c.fact 75 (f := .noat "TooMany" "kind") rfl),
    He.noat_ok (x := "TooMany") (c.fact 76 (f := .noat "TooMany" "limit") rfl),
    ⟨_, _, He.eqO_ok (He.ba (c.bool 90 (b := fun K => LKH.xinB K (He.ga K "TooMany")) rfl)).1, of_decide_eq_true (He.ba (c.bool 90 (b := fun K => LKH.xinB K (He.ga K "TooMany")) rfl)).2, He5.fun_of Z_TooMany___init__⟩,
    LKH.xcb_of EF_NoQuotient (He.glo_ok X G (c.fact 47 (f := .glo "NoQuotient") rfl)) tail_AE (c.bool 91 (b := fun K => LKH.chainB K (He.ga K "NoQuotient") [.ref (He.ga K "LimitError"), .type "ArithmeticError", .type "Exception", .type "BaseException", .type "object"] "ArithmeticError.__new__") rfl) ⟨[(He.ga K "LimitError")], rfl⟩,
    He.noat_ok (x := "NoQuotient") (c.fact 77 (f := .noat "NoQuotient" "value") rfl),
    ⟨_, _, He.eqO_ok (He.ba (c.bool 92 (b := fun K => LKH.xinB K (He.ga K "NoQuotient")) rfl)).1, of_decide_eq_true (He.ba (c.bool 92 (b := fun K => LKH.xinB K (He.ga K "NoQuotient")) rfl)).2, He5.fun_of Z_NoQuotient___init__⟩,
    ⟨He.glo_ok X G (c.fact 17 (f := .glo "LastheldError") rfl), ⟨EF_LastheldError.is, EF_LastheldError.kp⟩, tail_VE.base, c.bool 93 (b := fun K => PySem.W.excIn K (He.ga K "LastheldError") [.type "ValueError", .type "Exception", .type "BaseException", .type "object"] "ValueError.__new__") rfl⟩,
    ⟨He.glo_ok X G (c.fact 18 (f := .glo "MissingError") rfl), ⟨EF_MissingError.is, EF_MissingError.kp⟩, tail_LE.base, c.bool 94 (b := fun K => PySem.W.excIn K (He.ga K "MissingError") [.type "LookupError", .type "Exception", .type "BaseException", .type "object"] "LookupError.__new__") rfl⟩,
    ⟨He.glo_ok X G (c.fact 19 (f := .glo "StateError") rfl), ⟨EF_StateError.is, EF_StateError.kp⟩, tail_RE.base, c.bool 95 (b := fun K => PySem.W.excIn K (He.ga K "StateError") [.type "RuntimeError", .type "Exception", .type "BaseException", .type "object"] "RuntimeError.__new__") rfl⟩,
    ⟨He.glo_ok X G (c.fact 20 (f := .glo "LimitError") rfl), ⟨EF_LimitError.is, EF_LimitError.kp⟩, tail_AE.base, c.bool 96 (b := fun K => PySem.W.excIn K (He.ga K "LimitError") [.type "ArithmeticError", .type "Exception", .type "BaseException", .type "object"] "ArithmeticError.__new__") rfl⟩,
    xall_of (c.bool 97 (b := fun K => xallB K [(He.ga K "InvalidName"), (He.ga K "InvalidNumber"), (He.ga K "InvalidLevel"), (He.ga K "InvalidClock"), (He.ga K "InvalidCount"), (He.ga K "InvalidFields"), (He.ga K "InvalidEquation"), (He.ga K "InvalidEquations"), (He.ga K "InvalidSetting"), (He.ga K "InvalidSettings"), (He.ga K "InvalidPairs"), (He.ga K "InvalidWishes"), (He.ga K "InvalidNames"), (He.ga K "InvalidText"), (He.ga K "InvalidCommand"), (He.ga K "UnknownField"), (He.ga K "UnknownReplica"), (He.ga K "UnknownMessage"), (He.ga K "NotFree"), (He.ga K "NotDetermined"), (He.ga K "OtherSheet"), (He.ga K "Refused"), (He.ga K "Impossible"), (He.ga K "RunFailed"), (He.ga K "NothingToTakeBack"), (He.ga K "TooMany"), (He.ga K "NoQuotient"), (He.ga K "LastheldError"), (He.ga K "MissingError"), (He.ga K "StateError"), (He.ga K "LimitError")]) rfl)⟩
  have F_l_pot := (He5.fun_of Z_l_pot)
  have F_l_draw := (He5.fun_of Z_l_draw)
  have F_l_odd := (He5.fun_of Z_l_odd)
  have F_l_flags := (He5.fun_of Z_l_flags)
  have F_l_bases := (He5.fun_of Z_l_bases)
  have F_l_is := (He5.fun_of Z_l_is)
  have F_l_values_right := (He5.fun_of Z_l_values_right)
  have F_l_places_right := (He5.fun_of Z_l_places_right)
  have F_l_others_right := (He5.fun_of Z_l_others_right)
  have F_l_plain_right := (He5.fun_of Z_l_plain_right)
  have bl := FunD.bindsA (ps := ["_law_script"]) Z_law fun _ _ _ _ _ _ us hl => match us, hl with | [_], _ => rfl
  refine ⟨_, fun s v => bl s [v] rfl, fun base _ _ => ?_⟩
  have D_l_pot := Df.mk ⟨_, _, (ok_l_pot (P := l.prog) (w := w) (base := base) F_l_pot T), (He.glo_ok X G (c.fact 78 (f := .glo "_law_pot") rfl)), Z_l_pot.kp, F_l_pot.binds fun _ _ _ _ _ _ us hl => match us, hl with | [_, _], _ => rfl⟩
  have D_l_draw := Df.mk ⟨_, _, (ok_l_draw (P := l.prog) (w := w) (base := base) F_l_draw T), (He.glo_ok X G (c.fact 79 (f := .glo "_law_draw") rfl)), Z_l_draw.kp, F_l_draw.binds fun _ _ _ _ _ _ us hl => match us, hl with | [_, _], _ => rfl⟩
  have D_l_odd := Df.mk ⟨_, _, (ok_l_odd (P := l.prog) (w := w) (base := base) F_l_odd T D_l_draw), (He.glo_ok X G (c.fact 80 (f := .glo "_law_odd") rfl)), Z_l_odd.kp, F_l_odd.binds fun _ _ _ _ _ _ us hl => match us, hl with | [_], _ => rfl⟩
  have D_l_flags := Df.mk ⟨_, _, (ok_l_flags (P := l.prog) (w := w) (base := base) F_l_flags T), (He.glo_ok X G (c.fact 81 (f := .glo "_law_flags") rfl)), Z_l_flags.kp, F_l_flags.binds fun _ _ _ _ _ _ us hl => match us, hl with | [_], _ => rfl⟩
  have D_l_bases := Df.mk ⟨_, _, (ok_l_bases (P := l.prog) (w := w) (base := base) F_l_bases T), (He.glo_ok X G (c.fact 82 (f := .glo "_law_bases") rfl)), Z_l_bases.kp, F_l_bases.binds fun _ _ _ _ _ _ us hl => match us, hl with | [_], _ => rfl⟩
  have D_l_is := Df.mk ⟨_, _, (ok_l_is (P := l.prog) (w := w) (base := base) F_l_is T D_l_flags D_l_bases), (He.glo_ok X G (c.fact 83 (f := .glo "_law_is") rfl)), Z_l_is.kp, F_l_is.binds fun _ _ _ _ _ _ us hl => match us, hl with | [_, _], _ => rfl⟩
  have D_l_values_right := Df.mk ⟨_, _, (ok_l_values_right (P := l.prog) (w := w) (base := base) F_l_values_right T D_l_is), (He.glo_ok X G (c.fact 84 (f := .glo "_law_values_right") rfl)), Z_l_values_right.kp, F_l_values_right.binds fun _ _ _ _ _ _ us hl => match us, hl with | [_], _ => rfl⟩
  have D_l_places_right := Df.mk ⟨_, _, (ok_l_places_right (P := l.prog) (w := w) (base := base) F_l_places_right T D_l_is), (He.glo_ok X G (c.fact 85 (f := .glo "_law_places_right") rfl)), Z_l_places_right.kp, F_l_places_right.binds fun _ _ _ _ _ _ us hl => match us, hl with | [_], _ => rfl⟩
  have D_l_others_right := Df.mk ⟨_, _, (ok_l_others_right (P := l.prog) (w := w) (base := base) F_l_others_right T D_l_is), (He.glo_ok X G (c.fact 86 (f := .glo "_law_others_right") rfl)), Z_l_others_right.kp, F_l_others_right.binds fun _ _ _ _ _ _ us hl => match us, hl with | [_, _, _], _ => rfl⟩
  have D_l_plain_right := Df.mk ⟨_, _, (ok_l_plain_right (P := l.prog) (w := w) (base := base) F_l_plain_right T D_l_flags D_l_bases), (He.glo_ok X G (c.fact 87 (f := .glo "_law_plain_right") rfl)), Z_l_plain_right.kp, F_l_plain_right.binds fun _ _ _ _ _ _ us hl => match us, hl with | [], _ => rfl⟩
  exact ok_law (He5.fun_of Z_law) T D_l_pot D_l_odd D_l_values_right D_l_places_right D_l_others_right D_l_plain_right
end K18

open PySem PySem.W PyProof.Rows L2 LK in
set_option maxRecDepth 100000 in
set_option maxHeartbeats 0 in
theorem PySem.Challenge.cw_lastheld_k18_errors_made_holds : PySem.Challenge.rw_lastheld_k18_errors_made.Holds := by
  w_on; o_law
  refine HandSHeadRun.head_any (r := OpenLaw.row PySem.Challenge.rw_lastheld_k18_errors_made) (q := view (OpenLaw.row PySem.Challenge.rw_lastheld_k18_errors_made).prog [43]) (H := LKH.hookF 60000 K18.ghC) (ob := LKH.obF 60000 K18.ghC) (M := 60000) (loose := K18.ghLoose) (d := HandSHeadRun.topDef (OpenLaw.row PySem.Challenge.rw_lastheld_k18_errors_made).prog 43) (kwd := []) (LKH.obF_eq 60000 K18.ghC)
    (by kernel_rfl) (fun s => by kernel_rfl) K18.gh_run (by kernel_rfl) (by kernel_rfl) (by kernel_rfl) (by rfl) (by first | assumption | decide +kernel) (by decide +kernel) ⟨rfl, rfl, rfl, rfl, rfl, by decide +kernel⟩ ?hw ?hc
  case hw => w_witness2
  case hc =>
    refine LKH.walk_ofGE (l := PySem.Challenge.rw_lastheld_k18_errors_made) (n := 63) (k := 4) (x := "_law_script") (CX := CX0) rfl (by decide) (by kernel_rfl) ⟨rfl, by decide, by decide⟩ ?F (fun _ _ _ _ z => z)
    intro w mg fa h Y G hmg0
    obtain ⟨K, KX, c⟩ := Y
    have hmg : mg ("law" : PySem.Str) = some (.ref fa) := by
      have e : (HandSHeadRun.topDef (OpenLaw.row PySem.Challenge.rw_lastheld_k18_errors_made).prog 43).name = ("law" : PySem.Str) := by kernel_rfl
      rw [← e]
      exact hmg0
    obtain ⟨fd, hb, hF⟩ := K18.all_mk (l := PySem.Challenge.rw_lastheld_k18_errors_made) (w := w) KX G hmg c
    exact ⟨K, fd, LK.spLaw K, KX, hb, fun H a ns hl _ hS => ⟨a, ns, rfl, hS, hl, fun _ => rfl⟩, hF⟩
