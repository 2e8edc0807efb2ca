import PyProof.Rows.All
import Wide.All
import OpenK.AllK
import Wide.FinOn
import HandS.ForMost
import HandS.Wide
import HandS.WideBits
import HandS.IsInst
import HandS.Conv
import HandS.TupAny
import HandS.Defaults
import HandS.SortInts
import KE.GoesEnum
import KE.GoesMore
import PySem.Challenge.RW_keptrests_k38_whole_all_tables_from_noug
set_option Elab.async false
set_option linter.all false
set_option maxRecDepth 100000
set_option maxHeartbeats 5000000
/-! The mathematics of k38: counts of tables, by least common multiples. -/
namespace K38
/-- the least common multiple of max(0, 1), .., max(k - 1, 1) -/
def part : Nat → Nat
  | 0 => 1
  | k + 1 => Nat.lcm (part k) (max k 1)
/-- the product over the places below k -/
def cnt (n : Nat) : Nat → Nat
  | 0 => 1
  | k + 1 => cnt n k * (n / Nat.gcd n (part (k + 1)))
/-- what is known at place k by the facts at the places 0 .. m - 1, each by n: its base -/
def kn (n k : Nat) : Nat → Nat
  | 0 => 1
  | m + 1 => Nat.lcm (kn n k m) (Nat.gcd n (k - m))
/-- greatest common divisors spread over least common multiples -/
theorem gcd_lcm (n a b : Nat) (hn : 0 < n) : Nat.gcd n (Nat.lcm a b) = Nat.lcm (Nat.gcd n a) (Nat.gcd n b) := by
  apply Nat.dvd_antisymm
  · -- d divides n and lcm a b
    generalize hd : Nat.gcd n (Nat.lcm a b) = d
    have dn : d ∣ n := hd ▸ Nat.gcd_dvd_left _ _
    have dl : d ∣ Nat.lcm a b := hd ▸ Nat.gcd_dvd_right _ _
    have d0 : 0 < d := Nat.pos_of_dvd_of_pos dn hn
    -- it is enough to show it for d in the place of n
    have key : d ∣ Nat.lcm (Nat.gcd d a) (Nat.gcd d b) := by
      generalize hg : Nat.gcd (Nat.gcd d a) (Nat.gcd d b) = g
      have ga : g ∣ a := hg ▸ Nat.dvd_trans (Nat.gcd_dvd_left _ _) (Nat.gcd_dvd_right _ _)
      have gb : g ∣ b := hg ▸ Nat.dvd_trans (Nat.gcd_dvd_right _ _) (Nat.gcd_dvd_right _ _)
      have gd : g ∣ d := hg ▸ Nat.dvd_trans (Nat.gcd_dvd_left _ _) (Nat.gcd_dvd_left _ _)
      have g0 : 0 < g := Nat.pos_of_dvd_of_pos gd d0
      have h1 : d * g ∣ d * d := Nat.mul_dvd_mul (Nat.dvd_refl _) gd
      have h2 : d * g ∣ d * b := Nat.mul_dvd_mul (Nat.dvd_refl _) gb
      have h3 : d * g ∣ a * d := by
        rw [Nat.mul_comm a d]
        exact Nat.mul_dvd_mul (Nat.dvd_refl _) ga
      have h4 : d * g ∣ a * b := by
        rw [← Nat.gcd_mul_lcm a b, Nat.mul_comm (Nat.gcd a b)]
        exact Nat.mul_dvd_mul dl (Nat.dvd_gcd ga gb)
      have h5 : d * g ∣ Nat.gcd d a * Nat.gcd d b := by
        have e : Nat.gcd d a * Nat.gcd d b = Nat.gcd (d * Nat.gcd d b) (a * Nat.gcd d b) := (Nat.gcd_mul_right d (Nat.gcd d b) a).symm
        rw [e]
        apply Nat.dvd_gcd
        · rw [← Nat.gcd_mul_left d d b]
          exact Nat.dvd_gcd h1 h2
        · rw [← Nat.gcd_mul_left a d b]
          exact Nat.dvd_gcd h3 h4
      rw [← Nat.gcd_mul_lcm (Nat.gcd d a) (Nat.gcd d b), hg, Nat.mul_comm g] at h5
      exact Nat.dvd_of_mul_dvd_mul_right g0 h5
    refine Nat.dvd_trans key (Nat.lcm_dvd ?_ ?_)
    · exact Nat.dvd_trans (Nat.dvd_gcd (Nat.dvd_trans (Nat.gcd_dvd_left _ _) dn) (Nat.gcd_dvd_right _ _)) (Nat.dvd_lcm_left _ _)
    · exact Nat.dvd_trans (Nat.dvd_gcd (Nat.dvd_trans (Nat.gcd_dvd_left _ _) dn) (Nat.gcd_dvd_right _ _)) (Nat.dvd_lcm_right _ _)
  · refine Nat.lcm_dvd ?_ ?_
    · exact Nat.dvd_gcd (Nat.gcd_dvd_left _ _) (Nat.dvd_trans (Nat.gcd_dvd_right _ _) (Nat.dvd_lcm_left _ _))
    · exact Nat.dvd_gcd (Nat.gcd_dvd_left _ _) (Nat.dvd_trans (Nat.gcd_dvd_right _ _) (Nat.dvd_lcm_right _ _))
theorem lcm_dvd_iff {a b D : Nat} : Nat.lcm a b ∣ D ↔ a ∣ D ∧ b ∣ D :=
  ⟨fun h => ⟨Nat.dvd_trans (Nat.dvd_lcm_left _ _) h, Nat.dvd_trans (Nat.dvd_lcm_right _ _) h⟩, fun h => Nat.lcm_dvd h.1 h.2⟩
theorem kn_dvd {n k D : Nat} : ∀ m, kn n k m ∣ D ↔ ∀ j, j < m → Nat.gcd n (k - j) ∣ D
  | 0 => ⟨fun _ j hj => absurd hj (Nat.not_lt_zero _), fun _ => Nat.one_dvd _⟩
  | m + 1 => by
    show Nat.lcm (kn n k m) (Nat.gcd n (k - m)) ∣ D ↔ _
    rw [lcm_dvd_iff, kn_dvd m]
    constructor
    · rintro ⟨h1, h2⟩ j hj
      by_cases e : j = m
      · rw [e]; exact h2
      · exact h1 j (by omega)
    · intro h
      exact ⟨fun j hj => h j (by omega), h m (by omega)⟩
theorem gpart_dvd {n D : Nat} (hn : 0 < n) : ∀ m, Nat.gcd n (part m) ∣ D ↔ ∀ j, j < m → Nat.gcd n (max j 1) ∣ D
  | 0 => by
    show Nat.gcd n 1 ∣ D ↔ _
    rw [Nat.gcd_one_right]
    exact ⟨fun _ j hj => absurd hj (Nat.not_lt_zero _), fun _ => Nat.one_dvd _⟩
  | m + 1 => by
    show Nat.gcd n (Nat.lcm (part m) (max m 1)) ∣ D ↔ _
    rw [gcd_lcm _ _ _ hn, lcm_dvd_iff, gpart_dvd hn m]
    constructor
    · rintro ⟨h1, h2⟩ j hj
      by_cases e : j = m
      · rw [e]; exact h2
      · exact h1 j (by omega)
    · intro h
      exact ⟨fun j hj => h j (by omega), h m (by omega)⟩
theorem kn_dvd_n (n k m : Nat) : kn n k m ∣ n := (kn_dvd m).mpr fun _ _ => Nat.gcd_dvd_left _ _
theorem kn_pos {n : Nat} (hn : 0 < n) (k m : Nat) : 0 < kn n k m := Nat.pos_of_dvd_of_pos (kn_dvd_n n k m) hn
theorem kn_le {n : Nat} (hn : 0 < n) (k m : Nat) : kn n k m ≤ n := Nat.le_of_dvd hn (kn_dvd_n n k m)
/-- THE LAW: what the facts at the places below k leave at k is what the numbers up to k leave -/
theorem gcd_kn {n : Nat} (hn : 0 < n) (k : Nat) : Nat.gcd n (kn n k k) = Nat.gcd n (part (k + 1)) := by
  have e : Nat.gcd n (kn n k k) = kn n k k := Nat.gcd_eq_right (kn_dvd_n n k k)
  rw [e]
  apply Nat.dvd_antisymm
  · refine (kn_dvd k).mpr fun j hj => ?_
    have h := (gpart_dvd (D := Nat.gcd n (part (k + 1))) hn (k + 1)).mp (Nat.dvd_refl _) (k - j) (by omega)
    rw [show max (k - j) 1 = k - j by omega] at h
    exact h
  · refine (gpart_dvd hn (k + 1)).mpr fun j hj => ?_
    by_cases h0 : j = 0
    · rw [h0, show max 0 1 = 1 by omega, Nat.gcd_one_right]
      exact Nat.one_dvd _
    · have h := (kn_dvd (D := kn n k k) k).mp (Nat.dvd_refl _) (k - j) (by omega)
      rw [show k - (k - j) = j by omega] at h
      rw [show max j 1 = j by omega]
      exact h
theorem part_pos : ∀ k, 0 < part k
  | 0 => Nat.one_pos
  | k + 1 => Nat.lcm_pos (part_pos k) (by omega)
theorem part_lt : ∀ k, k ≤ 255 → part k < 2 ^ (8 * k + 1)
  | 0, _ => by decide
  | k + 1, h => by
    have h1 := part_lt k (by omega)
    have h2 : part (k + 1) ≤ part k * max k 1 := Nat.lcm_le_mul (part_pos k) (by omega)
    have h3 : max k 1 ≤ 2 ^ 8 := by
      have e : (2 : Nat) ^ 8 = 256 := by decide
      omega
    have h4 : part k * max k 1 ≤ part k * 2 ^ 8 := Nat.mul_le_mul_left _ h3
    have h5 : part k * 2 ^ 8 < 2 ^ (8 * k + 1) * 2 ^ 8 := Nat.mul_lt_mul_of_pos_right h1 (by decide)
    have h6 : (2 : Nat) ^ (8 * k + 1) * 2 ^ 8 = 2 ^ (8 * (k + 1) + 1) := by
      rw [← Nat.pow_add, show 8 * k + 1 + 8 = 8 * (k + 1) + 1 by omega]
    omega
theorem part_lt' {k : Nat} (h : k ≤ 201) : part k < 2 ^ 2000 :=
  Nat.lt_of_lt_of_le (part_lt k (by omega)) (Nat.pow_le_pow_right (by decide) (by omega))
theorem cnt_lt {n : Nat} (hn : n < 2 ^ 70) : ∀ k, cnt n k < 2 ^ (70 * k + 1)
  | 0 => by
    show 1 < 2 ^ (70 * 0 + 1)
    decide
  | k + 1 => by
    have h1 := cnt_lt hn k
    have h2 : n / Nat.gcd n (part (k + 1)) ≤ n := Nat.div_le_self _ _
    have h3 : cnt n k * (n / Nat.gcd n (part (k + 1))) ≤ cnt n k * 2 ^ 70 := Nat.mul_le_mul_left _ (by omega)
    have h4 : cnt n k * 2 ^ 70 < 2 ^ (70 * k + 1) * 2 ^ 70 := Nat.mul_lt_mul_of_pos_right h1 (by decide)
    have h6 : (2 : Nat) ^ (70 * k + 1) * 2 ^ 70 = 2 ^ (70 * (k + 1) + 1) := by
      rw [← Nat.pow_add, show 70 * k + 1 + 70 = 70 * (k + 1) + 1 by omega]
    show cnt n k * (n / Nat.gcd n (part (k + 1))) < _
    omega
theorem cnt_lt' {n k : Nat} (hn : n < 2 ^ 70) (h : k ≤ 200) : cnt n k < 2 ^ 14100 :=
  Nat.lt_of_lt_of_le (cnt_lt hn k) (Nat.pow_le_pow_right (by decide) (by omega))
/-- one factor of the product, as count_tables finds it -/
def fct (n k : Nat) : Nat := n / Nat.gcd n (kn n k k)
/-- the list of factors -/
def fcts (n size : Nat) : List Nat := (List.range size).map (fct n)
theorem fcts_succ (n k : Nat) : fcts n (k + 1) = fcts n k ++ [fct n k] := by
  unfold fcts
  rw [List.range_succ, List.map_append]
  rfl
theorem fcts_length (n k : Nat) : (fcts n k).length = k := by
  unfold fcts
  simp
theorem fcts_get {n size i : Nat} (h : i < size) : (fcts n size)[i]? = some (fct n i) := by
  unfold fcts
  rw [List.getElem?_map, List.getElem?_range h]
  rfl
theorem cnt_succ {n : Nat} (hn : 0 < n) (k : Nat) : cnt n (k + 1) = cnt n k * fct n k := by
  show cnt n k * (n / Nat.gcd n (part (k + 1))) = cnt n k * (n / Nat.gcd n (kn n k k))
  rw [gcd_kn hn]
theorem gcd_ediv (a b : Nat) : ((a / b : Nat) : Int) = (a : Int) / (b : Int) := Int.natCast_ediv a b

/-! maps of rests, all of them, by hand -/
/-- the pairs (j, gcd(n, k - j)) for j below k, those above 1 -/
def prts0 (n k : Nat) : List (Nat × Nat) := (List.range k).map fun j => (j, Nat.gcd n (k - j))
def prts (n k : Nat) : List (Nat × Nat) := (prts0 n k).filter fun p => decide (1 < p.2)
/-- does the pair refuse r behind s? -/
def refuses (s : List Nat) (r : Nat) (p : Nat × Nat) : Bool := !decide ((((s.getD p.1 0 : Nat) : Int) - (r : Int)) % (p.2 : Int) = 0)
/-- the places whose pair refuses r behind s -/
def bad (n k : Nat) (s : List Nat) (r : Nat) : List Nat := ((prts n k).filter (refuses s r)).map (·.1)
/-- s, longer by each r that no pair refuses -/
def exts (n k : Nat) (s : List Nat) : List (List Nat) := ((List.range n).filter fun r => (bad n k s r).isEmpty).map fun r => s ++ [r]
def maps (n : Nat) : Nat → List (List Nat)
  | 0 => [[]]
  | k + 1 => (maps n k).flatMap (exts n k)
theorem maps2 : (maps 2 2).length = cnt 2 2 := by decide +kernel
theorem maps3 : (maps 3 3).length = cnt 3 3 := by decide +kernel
theorem maps4 : (maps 4 4).length = cnt 4 4 := by decide +kernel
theorem maps6 : (maps 6 6).length = cnt 6 6 := by decide +kernel
theorem maps_all {n : Nat} (h : n = 2 ∨ n = 3 ∨ n = 4 ∨ n = 6) : (maps n n).length = cnt n n := by
  rcases h with h | h | h | h <;> subst h
  · exact maps2
  · exact maps3
  · exact maps4
  · exact maps6
theorem exts_len (n k : Nat) (s : List Nat) : (exts n k s).length ≤ n := by
  unfold exts
  rw [List.length_map]
  exact Nat.le_trans (List.length_filter_le _ _) (by rw [List.length_range]; exact Nat.le_refl _)
theorem flat_len {f : List Nat → List (List Nat)} {n : Nat} (h : ∀ s, (f s).length ≤ n) : ∀ l : List (List Nat), (l.flatMap f).length ≤ l.length * n
  | [] => Nat.zero_le _
  | a :: l => by
    rw [List.flatMap_cons, List.length_append, List.length_cons, Nat.succ_mul]
    have h1 := h a
    have h2 := flat_len h l
    omega
theorem maps_len {n : Nat} (hn : n ≤ 6) : ∀ k, k ≤ 6 → (maps n k).length ≤ 6 ^ k
  | 0, _ => Nat.le_refl 1
  | k + 1, h => by
    have h1 := maps_len hn k (by omega)
    have h2 := flat_len (exts_len n k) (maps n k)
    have h3 : (maps n k).length * n ≤ 6 ^ k * 6 := Nat.mul_le_mul h1 hn
    show ((maps n k).flatMap (exts n k)).length ≤ 6 ^ k * 6
    omega
theorem maps_len' {n k : Nat} (hn : n ≤ 6) (hk : k ≤ 6) : (maps n k).length ≤ 46656 :=
  Nat.le_trans (maps_len hn k hk) (Nat.le_trans (Nat.pow_le_pow_right (by decide) hk) (by decide))
theorem exts_item {n k : Nat} {s : List Nat} : ∀ t ∈ exts n k s, t.length = s.length + 1 := by
  intro t ht
  obtain ⟨r, _, rfl⟩ := List.mem_map.mp ht
  rw [List.length_append]
  rfl
theorem maps_item {n : Nat} : ∀ k, ∀ t ∈ maps n k, t.length = k
  | 0, t, h => by
    have e : t = [] := by simpa [maps] using h
    rw [e]; rfl
  | k + 1, t, h => by
    obtain ⟨s, hs, ht⟩ := List.mem_flatMap.mp h
    rw [exts_item t ht, maps_item k s hs]
theorem prts_lt {n k : Nat} : ∀ p ∈ prts n k, p.1 < k ∧ 1 < p.2 := by
  intro p hp
  obtain ⟨h1, h2⟩ := List.mem_filter.mp hp
  obtain ⟨j, hj, rfl⟩ := List.mem_map.mp h1
  exact ⟨List.mem_range.mp hj, of_decide_eq_true h2⟩
theorem prts0_get {n k i : Nat} (h : i < k) : (prts0 n k)[i]? = some (i, Nat.gcd n (k - i)) := by
  unfold prts0
  rw [List.getElem?_map, List.getElem?_range h]
  rfl
theorem prts0_length (n k : Nat) : (prts0 n k).length = k := by
  unfold prts0
  simp
end K38

/-! k38: the text by places; a def as its callers know it. -/
namespace K38
open PySem PySem.Spec PyProof.Rows L2
def topS (i : Nat) : Stmt := PySem.Challenge.pw_keptrests_k38_whole_all_tables_from_noug.main.body.getD i (.Pass ⟨0, 0, 0, 0⟩)
abbrev sGcd : Stmt := topS 11
abbrev sLcm : Stmt := topS 12
abbrev sRestBy : Stmt := topS 13
abbrev sInverse : Stmt := topS 15
abbrev sMet : Stmt := topS 16
abbrev sIsInt : Stmt := topS 18
abbrev sIsBetween : Stmt := topS 19
abbrev sIsBase : Stmt := topS 20
abbrev sCkBetween : Stmt := topS 22
abbrev sCkFacts : Stmt := topS 25
abbrev sAllQ : Stmt := topS 27
abbrev sCkMachine : Stmt := topS 28
abbrev sKnownBy : Stmt := topS 29
abbrev sCkPlaces : Stmt := topS 31
abbrev sCkParted : Stmt := topS 33
abbrev sCkAsked : Stmt := topS 34
abbrev sLeast : Stmt := topS 35
abbrev sNums : Stmt := topS 36
abbrev sProd : Stmt := topS 37
abbrev sTables : Stmt := topS 38
abbrev sAll : Stmt := topS 39
abbrev sCell : Stmt := topS 41
abbrev sJar : Stmt := topS 42
abbrev sDig : Stmt := topS 43
abbrev sTake : Stmt := topS 44
abbrev sLGcd : Stmt := topS 45
abbrev sLLcm : Stmt := topS 46
abbrev sMaps : Stmt := topS 47
abbrev sRight : Stmt := topS 48
abbrev sLaw : Stmt := topS 49
section
variable {P : Program} {w : World} {K : PySem.W.Frag} {mg : Str → Option Value} {base : Heap}
/-- the def st stands under the name x -/
def Has (K : PySem.W.Frag) (mg : Str → Option Value) (x : Str) (st : Stmt) (ps : List Str) : Prop :=
  ∃ (f : Addr) (fd : FuncData), Fun K x x st f fd ∧ mg x = some (.ref f) ∧ Binds K fd ps []
/-- the def under the name x keeps the promise sp -/
def Ok (P : Program) (w : World) (K : PySem.W.Frag) (mg : Str → Option Value) (base : Heap) (k : Nat) (x : Str) (ps : List Str) (sp : Sp) : Prop :=
  ∃ (f : Addr) (fd : FuncData), mg x = some (.ref f) ∧ PySem.W.keepIn K (.ref f) = true ∧ Binds K fd ps [] ∧ FnOk P w K mg base CX0 k f fd ps sp
theorem Ok.mk {x : Str} {st : Stmt} {N ps : List Str} {k : Nat} {sp : Sp} (h : Has K mg x st ps) (S : FnScope N ps (defScope st)) (len : ∀ vs H Q E, sp vs H Q E → vs.length = ps.length)
    (body : ∀ (f : Addr) (cdv : Value) (A : Around) (outer : List Env) (s : Shared) (H : Hp) (vs : List V) (Q : VK) (E : XK), Room k (A.deeper (envOfC x (defScope st) s.heap.objs.size f cdv)) → sp vs H Q E →
      ∃ t, PSs (cxOf CX0 P w K mg base N x (defScope st) f cdv A outer s H E).nox (defBody st) t ∧ t { nx := fun _ H' => Q .non H', rt := Q } (start N vs) H) : Ok P w K mg base (k + 1) x ps sp := by
  obtain ⟨f, fd, F, hm, b⟩ := h
  exact ⟨f, fd, hm, F.kp, b, F.ok S len fun cdv A outer s H vs Q E hr hp => body f cdv A outer s H vs Q E hr hp⟩
end
/-- f(e, ..) by what the callers know -/
theorem pcall {X : Cx} {k j : Nat} {x : Str} {ps : List Str} {sp : Sp} {p pos : Pos} {e : Expr} {es : List Expr} {t : TA} (h : Ok X.prog X.w X.K X.mg X.base k x ps sp) (hr : Room j X.A) (ha : PA X (e :: es) t) (hg : Gl X x := by rfl) (hk : k ≤ j := by decide)
    (hdb : (x == ("__debug__" : Str)) = false := by decide)
    (he : starEach (e :: es) X.env = (false, eval e X.env) :: starEach es X.env := by rfl) (hpl : (backTo pos (starEach es X.env)).any (·.1) = false := by rfl) : PE X (.Call (.Name x p) (e :: es) [] pos) (tCall sp [] E0 t) := by
  obtain ⟨f, fd, hm, hkp, b, F⟩ := h
  exact pe_call F (hr.mono hk) hg hm hkp b .nil pass0 ha hdb he hpl
/-! ### gcd -/
section
variable {P : Program} {w : World} {K : PySem.W.Frag} {mg : Str → Option Value} {base : Heap}
theorem scGcd : FnScope ["one", "other"] ["one", "other"] (defScope sGcd) := ⟨rfl, rfl, rfl, by decide +kernel, rfl, by decide +kernel, by decide +kernel⟩
def spGcd : Sp := fun vs H Q _ => ∃ a b : Int, vs = [.int a, .int b] ∧ Q (.int (Nat.gcd a.natAbs b.natAbs : Nat)) H
theorem abs_if (a : Int) : (if a < 0 then -a else a) = ((a.natAbs : Nat) : Int) := by
  split <;> omega
theorem gcd_turn {m n : Nat} : Nat.gcd n (m % n) = Nat.gcd m n := by
  have h := Nat.gcd_rec n m
  rw [Nat.gcd_comm m n, h]
  exact Nat.gcd_comm n (m % n)
theorem ok_gcd (h : Has K mg "gcd" sGcd ["one", "other"]) (za : mg "abs" = none) : Ok P w K mg base 1 "gcd" ["one", "other"] spGcd := by
  refine Ok.mk h scGcd (fun vs H Q E h => ?_) (fun f cdv A outer s H vs Q E hr h => ?_)
  · obtain ⟨a, b, rfl, _⟩ := h
    rfl
  · obtain ⟨a, b, rfl, q⟩ := h
    refine ⟨_, pss_cons (ps_par (i := 0) (j := 1) rfl scGcd.nd rfl rfl (by decide) rfl rfl (pa_cons (pe_callB call_abs (by rfl) za (by decide +kernel) (pa_cons (pv 0) pa_nil)) (pa_cons (pe_callB call_abs (by rfl) za (by decide +kernel) (pa_cons (pv 1) pa_nil)) pa_nil)) (by rfl))
      (pss_cons (ps_while PassesOwn.never (pt_cmpR op_gt (pv 1) pe_int (nomark _)) (pss_one (ps_par (i := 0) (j := 1) rfl scGcd.nd rfl rfl (by decide) rfl rfl (pa_cons (pv 1) (pa_cons (pe_op op_mod (pv 0) (pv 1)) pa_nil)) (by rfl))))
      (pss_one (ps_ret (pv 0)))), ?_⟩
    refine ⟨_, rfl, a, rfl, _, rfl, b, rfl, _, _, rfl, ?_⟩
    rw [abs_if, abs_if]
    refine ⟨fun n σ H' => H' = H ∧ ∃ m : Nat, σ = [some (.int (m : Nat)), some (.int (n : Nat))] ∧ Nat.gcd m n = Nat.gcd a.natAbs b.natAbs, ⟨b.natAbs, rfl, a.natAbs, rfl, rfl⟩, fun n σ H' hW => ?_⟩
    obtain ⟨rfl, m, rfl, e⟩ := hW
    refine ⟨_, rfl, _, _, rfl, rfl, _, rfl, ite2 (fun hn => ?_) (fun hn => ?_)⟩
    · have hn0 : (0 : Int) < (n : Int) := of_decide_eq_true hn
      refine ⟨fun σ' H2 => H2 = H' ∧ ∃ m' n' : Nat, n' < n ∧ σ' = [some (.int (m' : Nat)), some (.int (n' : Nat))] ∧ Nat.gcd m' n' = Nat.gcd a.natAbs b.natAbs, fun σ' H2 hN => ?_, ?_⟩
      · obtain ⟨rfl, m', n', hlt, rfl, e'⟩ := hN
        exact ⟨n', hlt, rfl, m', rfl, e'⟩
      · refine ⟨_, rfl, _, rfl, _, rfl, _, _, rfl, rfl, hn0, _, _, rfl, rfl, n, m % n, Nat.mod_lt _ (by omega), ?_, ?_⟩
        · rw [Int.natCast_emod]
          rfl
        · rw [gcd_turn]
          exact e
    · have hn0 : n = 0 := by
        have : ¬ (0 : Int) < (n : Int) := fun z => hn (decide_eq_true z)
        omega
      subst hn0
      rw [Nat.gcd_zero_right] at e
      subst e
      exact ⟨_, rfl, q⟩
end
end K38

namespace K38
open PySem PySem.Spec PyProof.Rows L2
theorem iteD {c A B : Prop} [Decidable c] (hc : c) (h : A) : if decide c = true then A else B := by
  rw [decide_eq_true hc]
  exact iteT h
theorem iteN {c A B : Prop} [Decidable c] (hc : ¬ c) (h : B) : if decide c = true then A else B := by
  rw [decide_eq_false hc]
  exact iteF h
theorem vne {a b : Int} (h : a ≠ b) : ¬ (V.int a = V.int b) := fun e => h (V.int.inj e)
section
variable {P : Program} {w : World} {K : PySem.W.Frag} {mg : Str → Option Value} {base : Heap}
/-! ### lcm -/
theorem scLcm : FnScope ["one", "other"] ["one", "other"] (defScope sLcm) := ⟨rfl, rfl, rfl, by decide +kernel, rfl, by decide +kernel, by decide +kernel⟩
def spLcm : Sp := fun vs H Q _ => ∃ a b : Nat, vs = [.int (a : Nat), .int (b : Nat)] ∧ 0 < a ∧ 0 < b ∧ a < 2 ^ 4000 ∧ b < 2 ^ 4000 ∧ Q (.int (Nat.lcm a b : Nat)) H
theorem lcm_way (a b : Nat) : ((a : Nat) : Int) / ((Nat.gcd a b : Nat) : Int) * ((b : Nat) : Int) = ((Nat.lcm a b : Nat) : Int) := by
  rw [← Int.natCast_ediv, ← Int.natCast_mul]
  congr 1
  show a / Nat.gcd a b * b = a * b / Nat.gcd a b
  exact Nat.div_mul_right_comm (Nat.gcd_dvd_left a b) b
theorem ok_lcm (h : Has K mg "lcm" sLcm ["one", "other"]) (g : Ok P w K mg base 1 "gcd" ["one", "other"] spGcd) (za : mg "abs" = none) : Ok P w K mg base 2 "lcm" ["one", "other"] spLcm := by
  refine Ok.mk h scLcm (fun vs H Q E h => ?_) (fun f cdv A outer s H vs Q E hr h => ?_)
  · obtain ⟨a, b, rfl, _⟩ := h
    rfl
  · obtain ⟨a, b, rfl, ha, hb, la, lb, q⟩ := h
    refine ⟨_, pss_one (ps_ret (pe_ifExp (PW.pt (pw_or (pt_cmpR op_eq (pv 0) pe_int (nomark _)) (pw_or1 (pt_cmpR op_eq (pv 1) pe_int (nomark _))))) pe_int
      (pe_op op_mulW (pe_op op_fdivW (pe_callB call_abs (by rfl) za (by decide +kernel) (pa_cons (pv 0) pa_nil)) (pcall g hr (pa_cons (pv 0) (pa_cons (pv 1) pa_nil))))
        (pe_callB call_abs (by rfl) za (by decide +kernel) (pa_cons (pv 1) pa_nil))))), ?_⟩
    have hg : 0 < Nat.gcd a b := Nat.gcd_pos_of_pos_left _ ha
    have hgl : Nat.gcd a b < 2 ^ 4000 := Nat.lt_of_le_of_lt (Nat.gcd_le_left _ ha) la
    refine ⟨_, rfl, rfl, _, rfl, iteN (vne (by omega)) ?_⟩
    refine ⟨_, rfl, rfl, _, rfl, ?_⟩
    rw [decide_eq_false (vne (show ((b : Nat) : Int) ≠ 0 by omega))]
    refine iteF ?_
    refine ⟨_, rfl, _, rfl, _, rfl, _, rfl, _, _, rfl, ?_⟩
    refine ⟨_, _, rfl, rfl, wide_div (b := 4000) (by simpa using Or.inl ha) (by simpa using hgl) (by decide) (by decide), ?_⟩
    refine ⟨_, rfl, _, rfl, ?_⟩
    rw [abs_if, abs_if]
    simp only [Int.natAbs_natCast]
    refine ⟨_, _, rfl, rfl, wide_mul (a := 4000) (b := 4000) ?_ ?_ (by decide) (by decide) (by decide), ?_⟩
    · rw [← Int.natCast_ediv, Int.natAbs_natCast]
      exact Nat.lt_of_le_of_lt (Nat.div_le_self _ _) la
    · rw [Int.natAbs_natCast]
      exact lb
    · show Q (V.int (((a : Nat) : Int) / ((Nat.gcd a b : Nat) : Int) * ((b : Nat) : Int))) H
      rw [lcm_way]
      exact q
/-! ### rest_by -/
theorem scRestBy : FnScope ["number", "base"] ["number", "base"] (defScope sRestBy) := ⟨rfl, rfl, rfl, by decide +kernel, rfl, by decide +kernel, by decide +kernel⟩
def spRestBy : Sp := fun vs H Q _ => ∃ (z : Int) (b : Nat), vs = [.int z, .int (b : Nat)] ∧ 0 < b ∧ Q (.int (z % (b : Int))) H
theorem ok_restBy (h : Has K mg "rest_by" sRestBy ["number", "base"]) : Ok P w K mg base 1 "rest_by" ["number", "base"] spRestBy := by
  refine Ok.mk h scRestBy (fun vs H Q E h => ?_) (fun f cdv A outer s H vs Q E hr h => ?_)
  · obtain ⟨a, b, rfl, _⟩ := h
    rfl
  · obtain ⟨z, b, rfl, hb, q⟩ := h
    refine ⟨_, pss_one (ps_ret (pe_ifExp (pt_cmpR op_eq (pv 1) pe_int (nomark _)) (pv 0) (pe_op op_mod (pv 0) (pv 1)))), ?_⟩
    refine ⟨_, rfl, rfl, _, rfl, iteN (vne (by omega)) ?_⟩
    exact ⟨_, rfl, _, rfl, _, _, rfl, rfl, by omega, q⟩
end
end K38

namespace K38
open PySem PySem.Spec PyProof.Rows L2
theorem same_upd {H : Hp} {p : Addr} {o : HO} (h : H p = none) : Same H (upd H p o) := fun b x e => by
  rw [upd_ne (ne_of_none e h)]
  exact e
/-- of unlike signs -/
def Opp (x y : Int) : Prop := (x ≤ 0 ∧ 0 ≤ y) ∨ (0 ≤ x ∧ y ≤ 0)
theorem opp_next {x y : Int} (t : Nat) (h : Opp x y) : (x - (t : Int) * y).natAbs = x.natAbs + t * y.natAbs ∧ Opp y (x - (t : Int) * y) := by
  rcases h with k | k <;> obtain ⟨h1, h2⟩ := k
  · obtain ⟨Y, rfl⟩ := Int.eq_ofNat_of_zero_le h2
    have e : (t : Int) * (Y : Int) = ((t * Y : Nat) : Int) := (Int.natCast_mul t Y).symm
    rw [e, Int.natAbs_natCast]
    generalize t * Y = c
    refine ⟨by omega, .inr ⟨h2, by omega⟩⟩
  · obtain ⟨Y, hY⟩ := Int.eq_ofNat_of_zero_le (show 0 ≤ -y by omega)
    have hy : y = -(Y : Int) := by omega
    have e : (t : Int) * y = -((t * Y : Nat) : Int) := by rw [hy, Int.mul_neg, Int.natCast_mul]
    have a : y.natAbs = Y := by omega
    rw [e, a]
    generalize t * Y = c
    refine ⟨by omega, .inl ⟨h2, by omega⟩⟩
theorem inv_keep {X Y m n b : Nat} (h : X * n + Y * m ≤ b) : Y * (m % n) + (X + m / n * Y) * n ≤ b := by
  have e := Nat.div_add_mod m n
  generalize m / n = t at e ⊢
  generalize m % n = r at e ⊢
  rw [← e] at h
  have e1 : Y * (n * t + r) = t * Y * n + Y * r := by
    rw [Nat.mul_add, ← Nat.mul_assoc, Nat.mul_comm (Y * n) t, Nat.mul_assoc]
  have e2 : (X + t * Y) * n = X * n + t * Y * n := Nat.add_mul ..
  omega
section
variable {P : Program} {w : World} {K : PySem.W.Frag} {mg : Str → Option Value} {base : Heap}
/-! ### inverse -/
theorem scInv : FnScope ["number", "base", "one", "other", "first", "second", "times"] ["number", "base"] (defScope sInverse) := ⟨rfl, rfl, rfl, by decide +kernel, rfl, by decide +kernel, by decide +kernel⟩
def spInv : Sp := fun vs H Q _ => ∃ (z : Int) (b : Nat), vs = [.int z, .int (b : Nat)] ∧ 0 < b ∧ b < 2 ^ 100 ∧ ∀ (H' : Hp) (y : Int), Same H H' → 0 ≤ y → y < (b : Int) → Q (.int y) H'
theorem ok_inv (h : Has K mg "inverse" sInverse ["number", "base"]) : Ok P w K mg base 1 "inverse" ["number", "base"] spInv := by
  refine Ok.mk h scInv (fun vs H Q E h => ?_) (fun f cdv A outer s H vs Q E hr h => ?_)
  · obtain ⟨a, b, rfl, _⟩ := h
    rfl
  · obtain ⟨z, b, rfl, hb, lb, q⟩ := h
    refine ⟨_, pss_cons (ps_asg (pe_tup (pa_cons (pv 1) (pa_cons (pe_op op_mod (pv 0) (pv 1)) (pa_cons pe_int (pa_cons pe_int pa_nil)))))
        (pg_tup rfl (pgs_cons (pg_name (i := 2) scInv.nd rfl (.inl rfl)) (pgs_cons (pg_name (i := 3) scInv.nd rfl (.inl rfl)) (pgs_cons (pg_name (i := 4) scInv.nd rfl (.inl rfl)) (pgs_cons (pg_name (i := 5) scInv.nd rfl (.inl rfl)) pgs_nil))))))
      (pss_cons (ps_while PassesOwn.never (pt_cmpR op_gt (pv 3) pe_int (nomark _))
        (pss_cons (ps_set (i := 6) scInv.nd rfl (.inl rfl) (pe_op op_fdivW (pv 2) (pv 3)))
        (pss_cons (ps_par (i := 2) (j := 3) rfl scInv.nd rfl rfl (by decide) rfl rfl (pa_cons (pv 3) (pa_cons (pe_op op_sub (pv 2) (pe_op op_mulW (pv 6) (pv 3))) pa_nil)) (by rfl))
        (pss_one (ps_par (i := 4) (j := 5) rfl scInv.nd rfl rfl (by decide) rfl rfl (pa_cons (pv 5) (pa_cons (pe_op op_sub (pv 4) (pe_op op_mulW (pv 6) (pv 5))) pa_nil)) (by rfl))))))
      (pss_one (ps_ret (pe_op op_mod (pv 4) (pv 1))))), ?_⟩
    have hb0 : (0 : Int) < (b : Int) := by omega
    have z0 := Int.emod_nonneg z (show (b : Int) ≠ 0 by omega)
    have z1 := Int.emod_lt_of_pos z hb0
    refine ⟨_, rfl, _, rfl, _, rfl, _, _, rfl, rfl, hb0, by show 4 ≤ sizeLine; decide, fun p np => ?_⟩
    refine ⟨p, _, rfl, .inl (.inl upd_same), rfl, _, _, rfl, _, _, rfl, _, _, rfl, _, _, rfl, rfl, ?_⟩
    obtain ⟨r, er⟩ := Int.eq_ofNat_of_zero_le z0
    have hrb : r < b := by omega
    -- the loop
    refine ⟨fun n σ H' => Same H H' ∧ n ≤ b ∧ ∃ (m : Nat) (x y : Int) (tm : Option V), σ = [some (.int z), some (.int (b : Nat)), some (.int (m : Nat)), some (.int (n : Nat)), some (.int x), some (.int y), tm] ∧
      0 < m ∧ m ≤ b ∧ Opp x y ∧ x.natAbs * n + y.natAbs * m ≤ b, ⟨r, same_upd np, by omega, b, 0, 1, none, ?_, hb, Nat.le_refl _, .inl ⟨by decide, by decide⟩, ?_⟩, fun n σ H' hW => ?_⟩
    · rw [← er]
      rfl
    · show 0 * r + 1 * b ≤ b
      omega
    · obtain ⟨sm, hn, m, x, y, tm, rfl, hm, hmb, ho, hk⟩ := hW
      refine ⟨_, rfl, _, _, rfl, rfl, _, rfl, ite2 (fun hn0 => ?_) (fun hn0 => ?_)⟩
      · have n0 : (0 : Int) < (n : Int) := of_decide_eq_true hn0
        have n0' : 0 < n := by omega
        refine ⟨fun σ' H2 => Same H H2 ∧ ∃ n' : Nat, n' < n ∧ n' ≤ b ∧ ∃ (m : Nat) (x y : Int) (tm : Option V), σ' = [some (.int z), some (.int (b : Nat)), some (.int (m : Nat)), some (.int (n' : Nat)), some (.int x), some (.int y), tm] ∧
          0 < m ∧ m ≤ b ∧ Opp x y ∧ x.natAbs * n' + y.natAbs * m ≤ b, fun σ' H2 hN => ?_, ?_⟩
        · obtain ⟨sm2, n', hlt, rest⟩ := hN
          exact ⟨n', hlt, sm2, rest⟩
        · have hnn : ((n : Nat) : Int).natAbs < 2 ^ 100 := by rw [Int.natAbs_natCast]; omega
          have ht : (((m : Nat) : Int) / ((n : Nat) : Int)).natAbs < 2 ^ 100 := by
            rw [← Int.natCast_ediv, Int.natAbs_natCast]
            have := Nat.div_le_self m n
            omega
          have hy : y.natAbs < 2 ^ 100 := by
            have h1 : y.natAbs * 1 ≤ y.natAbs * m := Nat.mul_le_mul_left _ hm
            omega
          refine ⟨_, rfl, _, rfl, _, _, rfl, rfl, wide_div (b := 100) n0 hnn (by decide) (by decide), ?_⟩
          refine ⟨_, rfl, _, rfl, _, rfl, _, rfl, _, _, rfl, rfl, wide_mul (a := 100) (b := 100) ht hnn (by decide) (by decide) (by decide), _, _, rfl, rfl, _, _, rfl, ?_⟩
          refine ⟨_, rfl, _, rfl, _, rfl, _, rfl, _, _, rfl, rfl, wide_mul (a := 100) (b := 100) ht hy (by decide) (by decide) (by decide), _, _, rfl, rfl, _, _, rfl, ?_⟩
          have e1 : ((m : Nat) : Int) - ((m : Nat) : Int) / ((n : Nat) : Int) * ((n : Nat) : Int) = ((m % n : Nat) : Int) := by
            rw [Int.natCast_emod, Int.emod_def, Int.mul_comm]
          have e2 : ((m : Nat) : Int) / ((n : Nat) : Int) = ((m / n : Nat) : Int) := (Int.natCast_ediv m n).symm
          obtain ⟨o1, o2⟩ := opp_next (m / n) ho
          have hlt : m % n < n := Nat.mod_lt _ n0'
          refine ⟨sm, m % n, hlt, by omega, n, y, x - ((m / n : Nat) : Int) * y, some (.int ((m / n : Nat) : Int)), ?_, n0', hn, o2, ?_⟩
          · rw [← e1, ← e2]
            rfl
          · rw [o1]
            exact inv_keep hk
      · refine ⟨_, rfl, _, rfl, _, _, rfl, rfl, hb0, ?_⟩
        exact q H' _ sm (Int.emod_nonneg _ (by omega)) (Int.emod_lt_of_pos _ hb0)
end
end K38

namespace K38
open PySem PySem.Spec PyProof.Rows L2
section
variable {P : Program} {w : World} {K : PySem.W.Frag} {mg : Str → Option Value} {base : Heap}
/-! ### met -/
theorem scMet : FnScope ["one", "other", "first", "base", "second", "mate", "shared", "steps"] ["one", "other"] (defScope sMet) := ⟨rfl, rfl, rfl, by decide +kernel, rfl, by decide +kernel, by decide +kernel⟩
def spMet : Sp := fun vs H Q _ => ∃ (A B : Addr) (r s : Int) (m n : Nat), vs = [.ref A, .ref B] ∧ H A = some (.tup [.int r, .int (m : Nat)]) ∧ H B = some (.tup [.int s, .int (n : Nat)]) ∧
  0 < m ∧ 0 < n ∧ m < 2 ^ 100 ∧ n < 2 ^ 100 ∧ 0 ≤ r ∧ r < 2 ^ 200 ∧ 0 ≤ s ∧ s < 2 ^ 200 ∧
  ∀ (H' : Hp) (p : Addr) (z : Int), Same H H' → H p = none → H' p = some (.tup [.int z, .int (Nat.lcm m n : Nat)]) → 0 ≤ z → z < (Nat.lcm m n : Nat) → Q (.ref p) H'
theorem ok_met (h : Has K mg "met" sMet ["one", "other"]) (g : Ok P w K mg base 1 "gcd" ["one", "other"] spGcd) (l : Ok P w K mg base 2 "lcm" ["one", "other"] spLcm)
    (v : Ok P w K mg base 1 "inverse" ["number", "base"] spInv) : Ok P w K mg base 3 "met" ["one", "other"] spMet := by
  refine Ok.mk h scMet (fun vs H Q E h => ?_) (fun f cdv A outer s H vs Q E hr h => ?_)
  · obtain ⟨A, B, r, s, m, n, rfl, _⟩ := h
    rfl
  · obtain ⟨A, B, r, s, m, n, rfl, hA, hB, hm, hn, lm, ln, r0, r1, s0, s1, q⟩ := h
    refine ⟨_, pss_cons (ps_asg (pe_tup (pa_cons (pv 0) (pa_cons (pv 1) pa_nil)))
        (pg_tup rfl (pgs_cons (pg_tup rfl (pgs_cons (pg_name (i := 2) scMet.nd rfl (.inl rfl)) (pgs_cons (pg_name (i := 3) scMet.nd rfl (.inl rfl)) pgs_nil)))
          (pgs_cons (pg_tup rfl (pgs_cons (pg_name (i := 4) scMet.nd rfl (.inl rfl)) (pgs_cons (pg_name (i := 5) scMet.nd rfl (.inl rfl)) pgs_nil))) pgs_nil))))
      (pss_cons (ps_if (PW.pt (pw_or (pt_cmpR op_eq (pv 3) pe_int (nomark _)) (pw_or1 (pt_cmpR op_eq (pv 5) pe_int (nomark _))))) pss_never pss_nil)
      (pss_cons (ps_set (i := 6) scMet.nd rfl (.inl rfl) (pcall g hr (pa_cons (pv 3) (pa_cons (pv 5) pa_nil))))
      (pss_cons (ps_set (i := 7) scMet.nd rfl (.inl rfl) (pe_op op_mod (pe_op op_mulW (pe_op op_fdivW (pe_op op_sub (pv 4) (pv 2)) (pv 6)) (pcall v hr (pa_cons (pe_op op_fdivW (pv 3) (pv 6)) (pa_cons (pe_op op_fdivW (pv 5) (pv 6)) pa_nil)))) (pe_op op_fdivW (pv 5) (pv 6))))
      (pss_one (ps_ret (pe_tup (pa_cons (pe_op op_mod (pe_op op_add (pv 2) (pe_op op_mulW (pv 3) (pv 7))) (pcall l hr (pa_cons (pv 3) (pa_cons (pv 5) pa_nil)))) (pa_cons (pcall l hr (pa_cons (pv 3) (pa_cons (pv 5) pa_nil))) pa_nil)))))))), ?_⟩
    refine ⟨_, rfl, _, rfl, by show 2 ≤ sizeLine; decide, fun t nt => ?_⟩
    have st : Same H (upd H t (.tup [.ref A, .ref B])) := same_upd nt
    refine ⟨t, _, rfl, .inl (.inl upd_same), rfl, _, _, rfl, ⟨A, _, rfl, .inl (.inl (st _ _ hA)), rfl, _, _, rfl, _, _, rfl, rfl, ?_⟩⟩
    refine ⟨_, _, rfl, ⟨B, _, rfl, .inl (.inl (st _ _ hB)), rfl, _, _, rfl, _, _, rfl, rfl, rfl, ?_⟩⟩
    -- neither is 0
    refine ⟨_, rfl, rfl, _, rfl, iteN (vne (by omega)) ?_⟩
    refine ⟨_, rfl, rfl, _, rfl, ?_⟩
    rw [decide_eq_false (vne (show ((n : Nat) : Int) ≠ 0 by omega))]
    refine iteF ?_
    -- shared
    refine ⟨_, rfl, _, rfl, _, _, rfl, ?_⟩
    simp only [Int.natAbs_natCast]
    have hg : 0 < Nat.gcd m n := Nat.gcd_pos_of_pos_left _ hm
    have hgm : Nat.gcd m n ≤ m := Nat.gcd_le_left _ hm
    have hgn : Nat.gcd m n ∣ n := Nat.gcd_dvd_right m n
    have hgl : Nat.gcd m n < 2 ^ 100 := by omega
    have hng : 0 < n / Nat.gcd m n := Nat.div_pos (Nat.le_of_dvd hn hgn) hg
    have hnl : n / Nat.gcd m n ≤ n := Nat.div_le_self _ _
    have hl : 0 < Nat.lcm m n := Nat.lcm_pos hm hn
    generalize hgg : Nat.gcd m n = gg at hg hgm hgl hng hnl hgn
    have g0 : (0 : Int) < ((gg : Nat) : Int) := by omega
    have gl : ((gg : Nat) : Int).natAbs < 2 ^ 100 := by rw [Int.natAbs_natCast]; exact hgl
    have en : ((n : Nat) : Int) / ((gg : Nat) : Int) = ((n / gg : Nat) : Int) := (Int.natCast_ediv n gg).symm
    -- steps
    refine ⟨_, rfl, _, rfl, _, _, rfl, rfl, _, rfl, _, _, rfl, rfl, wide_div (b := 100) g0 gl (by decide) (by decide), ?_⟩
    refine ⟨_, rfl, _, rfl, _, _, rfl, rfl, wide_div (b := 100) g0 gl (by decide) (by decide), ?_⟩
    refine ⟨_, rfl, _, rfl, _, _, rfl, rfl, wide_div (b := 100) g0 gl (by decide) (by decide), ?_⟩
    refine ⟨_, n / gg, (by rw [← en]; rfl), hng, by omega, fun H1 y sm y0 y1 => ?_⟩
    have hy : y.natAbs < 2 ^ 100 := by omega
    have hd : ((s - r) / ((gg : Nat) : Int)).natAbs < 2 ^ 201 := by
      have h1 := Int.natAbs_ediv_le_natAbs (s - r) ((gg : Nat) : Int)
      omega
    refine ⟨_, _, rfl, rfl, wide_mul (a := 201) (b := 100) hd hy (by decide) (by decide) (by decide), ?_⟩
    have hng0 : (0 : Int) < ((n : Nat) : Int) / ((gg : Nat) : Int) := by rw [en]; omega
    refine ⟨_, rfl, _, rfl, _, _, rfl, rfl, wide_div (b := 100) g0 gl (by decide) (by decide), _, _, rfl, rfl, hng0, ?_⟩
    have k0 := Int.emod_nonneg ((s - r) / ((gg : Nat) : Int) * y) (show ((n : Nat) : Int) / ((gg : Nat) : Int) ≠ 0 by omega)
    have k1 := Int.emod_lt_of_pos ((s - r) / ((gg : Nat) : Int) * y) hng0
    have k2 := Int.lt_of_lt_of_le k1 (Int.le_of_eq en)
    have hk : ((s - r) / ((gg : Nat) : Int) * y % (((n : Nat) : Int) / ((gg : Nat) : Int))).natAbs < 2 ^ 100 := by
      clear k1
      generalize (s - r) / ((gg : Nat) : Int) * y % (((n : Nat) : Int) / ((gg : Nat) : Int)) = kk at k0 k2
      omega
    have hml : ((m : Nat) : Int).natAbs < 2 ^ 100 := by rw [Int.natAbs_natCast]; exact lm
    -- the answer
    have up : (2 : Nat) ^ 100 ≤ 2 ^ 4000 := Nat.pow_le_pow_right (by decide) (by decide)
    refine ⟨_, rfl, _, rfl, _, rfl, _, _, rfl, rfl, wide_mul (a := 100) (b := 100) hml hk (by decide) (by decide) (by decide), _, _, rfl, rfl, ?_⟩
    refine ⟨_, rfl, _, rfl, m, n, rfl, hm, hn, Nat.lt_of_lt_of_le lm up, Nat.lt_of_lt_of_le ln up, _, _, rfl, rfl, by omega, ?_⟩
    refine ⟨_, rfl, _, rfl, m, n, rfl, hm, hn, Nat.lt_of_lt_of_le lm up, Nat.lt_of_lt_of_le ln up, by show 2 ≤ sizeLine; decide, fun p np => ?_⟩
    have s2 : Same H H1 := st.trans sm
    exact q _ p _ (s2.trans (same_upd np)) (s2.free np) upd_same (Int.emod_nonneg _ (by omega)) (Int.emod_lt_of_pos _ (by omega))
end
end K38

/-! k38: for i, x in enumerate(t), t a tuple. -/
namespace K38
open PySem PySem.Spec PyProof.Rows L2
/-- the record that enumerate lays over an iterator at it -/
abbrev enumRec (it : Addr) : Obj := { cls := .type "enumerate", data := .fields #[.none, .bool false, .ref it, rawInt 0, .none, .none] }
theorem meets_enum_one {v : Value} {o : Obj} {G : Heap → Prop} (B : Begins v o G) :
    Meets (Builtin.«enumerate.__new__» ⟨[.type "enumerate", v], []⟩) (fun _ R s => G s.heap ∧ R (.ok (.ret (.ref (s.heap.push o).objs.size))) { s with heap := (s.heap.push o).push (enumRec s.heap.objs.size) }) :=
  .of_wp fun prog w A R sh hh => by
    obtain ⟨hp, gn, dr, tk, os⟩ := sh
    obtain ⟨hG, hR⟩ := hh
    have hsub := sub_enumerate
    have go : ∀ {A' : Around} {E : Value → Shared → Prop} {Q : Value → Shared → Prop}, Q (.ref hp.objs.size) ⟨hp.push o, gn, dr, tk, os⟩ → wpAny (model prog w) A' (pyIter v) Q E ⟨hp, gn, dr, tk, os⟩ :=
      fun q => B.iter prog w _ _ ⟨hp, gn, dr, tk, os⟩ _ hG q
    wp_walk using go
    refine wpAny_stack_any fun stk => wpAny_pure ?_
    split
    · rename_i c _ _ _ _ _
      cases (c == Value.type "enumerate") <;> (wp_walk using go; exact ⟨_, rfl, hR⟩)
    · wp_walk using go
      exact ⟨_, rfl, hR⟩
theorem call_enum_one {prog : Program} {w : World} {A : Around} {E : Value → Shared → Prop} {s : Shared} {v : Value} {o : Obj} {G : Heap → Prop} {Q : Value → Shared → Prop} (B : Begins v o G) (hG : G s.heap)
    (h : ∀ h', IsEnum h' (s.heap.objs.size + 1) s.heap.objs.size 0 .none → h'.get? s.heap.objs.size = some o → (∀ b u, s.heap.get? b = some u → h'.get? b = some u) → Q (.ref (s.heap.objs.size + 1)) { s with heap := h' }) :
    wpAny (model prog w) A (call (.type "enumerate") [v]) Q E s := by
  refine callType_new F.called_enumerate (by decide) (F.typeCall_enumerate_1 _) (F.newCall_enumerate_1 _) (fun obj => F.args_object_init_2 obj _) F.entry_enumerate_new (meets_enum_one B) ⟨hG, ?_⟩
  have hz : (s.heap.push o).objs.size = s.heap.objs.size + 1 := Heap.size_push (h := s.heap) (o := o)
  have he := Heap.get?_push_size (s.heap.push o) (o := enumRec s.heap.objs.size) rfl
  rw [hz] at he
  show _ ∧ _
  rw [hz]
  exact ⟨⟨_, he, rfl⟩, h _ he (Heap.get?_push_of_some _ (Heap.get?_push_size _ B.free)) fun b u x => Heap.get?_push_of_some _ (Heap.get?_push_of_some _ x)⟩
/-- the tuple at a, each item in a new pair -/
def IteT (K : PySem.W.Frag) (a : Addr) : It where
  go := fun i H => ∃ (xs : List V) (x : V), SqT K H a xs ∧ xs[i]? = some x
  yld := fun i H v H' => ∃ T x, v = .ref T ∧ H T = none ∧ H' = upd H T (.tup [.int (i : Nat), x]) ∧ ∀ xs, SqT K H a xs → xs[i]? = some x
  stop := fun i H => ∃ xs : List V, SqT K H a xs ∧ xs.length = i
theorem turn_enumT {P : Program} {w : World} {K : PySem.W.Frag} {elts : List Expr} {kk : Nat} {tpos : Pos} (a e it : Addr) :
    Turn P w K (.Tuple elts kk tpos) (IteT K a) [e, it] e (fun i h => (∃ old, IsEnum h e it ((i : Nat) : Int) old) ∧ h.IsTupleIter it a i ∧ e ≠ it) where
  mem := List.mem_cons_self ..
  obj := by
    rintro i h ⟨⟨old, he⟩, ⟨o, ho, hc, hd⟩, _⟩ b hb
    rcases List.mem_cons.mp hb with rfl | hm
    · exact ⟨_, he, fun v q => nomatch q⟩
    · obtain rfl := List.mem_singleton.mp hm
      exact ⟨o, ho, fun v q => by rw [hd] at q; cases q⟩
  keep := by
    rintro i h h' ⟨⟨old, he⟩, hi, hne⟩ k
    exact ⟨⟨old, k e (by simp) _ he⟩, hi.at fun o q => k it (by simp) o q, hne⟩
  item := by
    intro X eP ew eK hc i pins s σ H E I hf state hg
    subst eP ew eK
    obtain ⟨⟨prev, he⟩, hit, hne⟩ := state
    obtain ⟨xs, x, hq, hx⟩ := hg
    obtain ⟨its, rv, p, _⟩ := I.tuple hq
    obtain ⟨u, hu, ru⟩ := Vals.get rv hx
    have hil : i < its.toArray.size := by
      have := (List.getElem?_eq_some_iff.mp hu).1
      simpa using this
    have hia : a ≠ it := fun z => by
      obtain ⟨o1, e1, _, _, d1⟩ := id p
      obtain ⟨o2, e2, _, d2⟩ := id hit
      rw [z, e2] at e1
      cases e1
      rw [d2] at d1
      cases d1
    have hea : e ≠ a := fun z => by
      obtain ⟨o1, e1, c1, _⟩ := id p
      rw [← z, he] at e1
      cases e1
      have c2 : Value.type "enumerate" = Value.type "tuple" := c1
      injection c2 with c3
      exact absurd c3 (by decide)
    have D := Draws.tuple (prog := X.prog) (w := X.w) (A := X.A.in1) (I.ok.hd hc) it a hia its.toArray
    refine wpAny_pyNext_enum_itemC D he ⟨hit, p⟩ hil hne (by simp [hne, hea]) fun y h' tk hy ho hst hT hsz hk => ?_
    have hyu : y = u := by
      have h1 : its.toArray[i]? = some y := hy
      have h2 : its[i]? = some y := by simpa using h1
      rw [hu] at h2
      exact (Option.some.inj h2).symm
    subst hyu
    refine ⟨_, rfl, wpAny_letOwnedTupleGo_enum (s := { s with heap := h', toks := tk + 1 }) ho fun h2 he2 sb => ?_⟩
    have hel := Heap.lt_size he
    have hitl : it < s.heap.objs.size := by
      obtain ⟨_, q, _⟩ := hit
      exact Heap.lt_size q
    have hT2 : h2.get? s.heap.objs.size = some { cls := .type "tuple", data := .seq #[.int (i : Nat) tk, y] } := (sb.2 _ (Nat.ne_of_gt hel)).trans hT
    have new : ObjOk X.prog X.w (upd H s.heap.objs.size (.tup [.int (i : Nat), x])) h2 s.heap.objs.size (.tup [.int (i : Nat), x]) :=
      ⟨by show 2 ≤ sizeLine; decide, [.int (i : Nat) tk, y], .cons ⟨_, rfl⟩ (.cons ru .nil), _, hT2, rfl, _, rfl⟩
    have I1 : Inv X pins σ (upd H s.heap.objs.size (.tup [.int (i : Nat), x])) { s with heap := h2, toks := tk + 1 } := by
      refine I.turnedNew (ch := [e, it]) (fun b ob hb q => ?_) hf (Nat.le_refl _) new
      have n1 : b ≠ e := fun z => hb (by simp [z])
      have n2 : b ≠ it := fun z => hb (by simp [z])
      exact (sb.2 b n1).trans (hk b ob n1 n2 q)
    refine ⟨.ref s.heap.objs.size, _, I1, rfl, ⟨_, x, rfl, I.hok.fresh (Nat.le_refl _), rfl, fun ys hy => by rw [I.tuple_inj hy hq]; exact hx⟩, ⟨⟨y, ?_⟩, hst.1.at fun o q => (sb.2 it (Ne.symm hne)).trans q, hne⟩, fun b hb => ?_⟩
    · have e1 : ((i + 1 : Nat) : Int) = ((i : Nat) : Int) + 1 := by omega
      rw [e1]
      exact he2
    · have hbl : b < s.heap.objs.size := by
        rcases List.mem_cons.mp hb with rfl | hb'
        · exact hel
        · obtain rfl := List.mem_singleton.mp hb'
          exact hitl
      rw [upd_ne (Nat.ne_of_lt hbl)]
      exact (hf b hb).1
  done := by
    intro X eP ew eK hc i pins s σ H E I hf state hg
    subst eP ew eK
    obtain ⟨⟨prev, he⟩, hit, hne⟩ := state
    obtain ⟨xs, hq, hx⟩ := hg
    obtain ⟨its, rv, p, _⟩ := I.tuple hq
    obtain ⟨f0, f1, _, f3, f4, f5⟩ := hf it (List.mem_cons_of_mem _ (List.mem_cons_self ..))
    have hl := rv.length
    have hia : a ≠ it := fun z => by
      obtain ⟨o1, e1, _, _, d1⟩ := id p
      obtain ⟨o2, e2, _, d2⟩ := id hit
      rw [z, e2] at e1
      cases e1
      rw [d2] at d1
      cases d1
    have hn : i = its.toArray.size := by
      rw [List.size_toArray, ← hl, hx]
    subst hn
    have D := Draws.tuple (prog := X.prog) (w := X.w) (A := X.A.in1) (I.ok.hd hc) it a hia its.toArray
    exact wpAny_pyNext_enum_endD D he ⟨hit, p⟩ fun h' eb => ⟨rfl, I.turned (t' := s.toks) (fun b o hb q => eb b o hb q) f0 f1 f3 f4 f5⟩
  self := by
    rintro A i s Q E ⟨⟨_, he⟩, _⟩ h
    exact wpAny_pyIter_enum he h
def iEnumT (K : PySem.W.Frag) (ta : TA) : TI := fun σ H R => ta σ H fun vs H1 => ∃ a xs, vs = [.ref a] ∧ SqT K H1 a xs ∧ R (IteT K a) H1
theorem pi_enumT {X : Cx} {e : Expr} {ta : TA} {p pos tpos : Pos} {elts : List Expr} {kk : Nat} (hm : X.mg "enumerate" = none) (ha : PA X [e] ta) (hg : Gl X "enumerate" := by rfl) (hs : starEach [e] X.env = [(false, eval e X.env)] := by rfl) :
    PI X (.Tuple elts kk tpos) (.Call (.Name "enumerate" p) [e] [] pos) (iEnumT X.K ta) := by
  constructor
  intro pins s σ H R I h
  refine Call_ (ld_blt I hg hm boot_enumerate ?_)
  refine PyProof.Rows.callWith_type1 (thn (ha.run pos pins s σ H _ I h) fun us s1 ⟨vs, H1, I1, r1, q1⟩ => ?_) hs rfl
  obtain ⟨a, xs, rfl, hq, q⟩ := q1
  obtain ⟨_, rfl, rfl⟩ := vals1 r1
  obtain ⟨its, rv, pt, _⟩ := I1.tuple hq
  refine call_enum_one (begins_tuple a its.toArray) pt fun h' he hit hk => wpAny_pyIter_enum he ?_
  have Ik := I1.kept (h' := h') (t' := s1.toks) hk
  refine ⟨s1.heap.objs.size + 1, [s1.heap.objs.size + 1, s1.heap.objs.size], _, IteT X.K a, H1, rfl, Ik, turn_enumT a (s1.heap.objs.size + 1) s1.heap.objs.size, ⟨⟨.none, he⟩, ⟨_, hit, rfl, rfl⟩, Nat.succ_ne_self _⟩, fun b hb => ?_, q⟩
  have new : s1.heap.objs.size ≤ b := by
    rcases List.mem_cons.mp hb with rfl | hb'
    · exact Nat.le_succ _
    · exact Nat.le_of_eq (List.mem_singleton.mp hb').symm
  exact I1.fpOk new (I1.hok.fresh new)
/-- over a tuple that stands: Pv by the turn, the slots and the heap -/
theorem for_enumT {K : PySem.W.Frag} {a : Addr} {xs : List V} {g : TG} {tb : TS} {D : Ends} {σ : L2.St} {H : Hp} (Pv : Nat → L2.St → Hp → Prop) (h0 : Pv 0 σ H) (hl : ∀ i σ H, Pv i σ H → SqT K H a xs)
    (hs : ∀ i x T σ H, xs[i]? = some x → Pv i σ H → H T = none → g (.ref T) σ (upd H T (.tup [.int (i : Nat), x])) fun σ2 H2 => tb { D with nx := Pv (i + 1), ct := Pv (i + 1), bk := D.nx } σ2 H2) (hd : ∀ σ H, Pv xs.length σ H → D.nx σ H) :
    ∃ W : Nat → Nat → L2.St → Hp → Prop, (∃ m, W 0 m σ H) ∧ ∀ i m σ H, W i m σ H → ((IteT K a).stop i H ∧ D.nx σ H) ∨ ((IteT K a).go i H ∧ ∃ N : L2.St → Hp → Prop, (∀ σ' H', N σ' H' → ∃ m', m' < m ∧ W (i + 1) m' σ' H') ∧ ∀ x H', (IteT K a).yld i H x H' → g x σ H' fun σ2 H2 => tb { D with nx := N, ct := N, bk := D.nx } σ2 H2) := by
  refine ⟨fun i m σ H => i + m = xs.length ∧ Pv i σ H, ⟨xs.length, by omega, h0⟩, ?_⟩
  rintro i m σ H ⟨hm, p⟩
  have q := hl i σ H p
  cases m with
  | zero =>
    have e : i = xs.length := by omega
    subst e
    exact .inl ⟨⟨xs, q, rfl⟩, hd σ H p⟩
  | succ m =>
    have below : i < xs.length := by omega
    refine .inr ⟨⟨xs, xs[i], q, List.getElem?_eq_getElem below⟩, Pv (i + 1), fun σ' H' p' => ⟨m, Nat.lt_succ_self m, by omega, p'⟩, fun v H' y => ?_⟩
    obtain ⟨T, x, rfl, nT, rfl, hx⟩ := y
    exact hs i x T σ H (hx xs q) p nT
end K38

namespace K38
open PySem PySem.Spec PyProof.Rows L2
/-- the module's names that are no names of the module: built-ins -/
structure Bl (mg : Str → Option Value) : Prop where
  abs : mg "abs" = none
  isinstance : mg "isinstance" = none
  int : mg "int" = none
  bool : mg "bool" = none
  tuple : mg "tuple" = none
  list : mg "list" = none
  enumerate : mg "enumerate" = none
  range : mg "range" = none
  sorted : mg "sorted" = none
  len : mg "len" = none
  max : mg "max" = none
  min : mg "min" = none
  divmod : mg "divmod" = none
  all : mg "all" = none
/-- isinstance(x, T), T a built-in class by its name -/
theorem pe_isi {X : Cx} {a : Expr} {ta : TE} {T : Str} {n : String} {p p2 pos : Pos} (ha : PE X a ta) (hm : X.mg "isinstance" = none) (hT : X.mg T = none) (hg : Gl X "isinstance" := by rfl) (hgT : Gl X T := by rfl) (hv : bootBuiltins T = some (.type n) := by decide +kernel)
    (hn : T ≠ "__name__" := by decide) (hd : (T == ("__debug__" : Str)) = false := by decide)
    (h1 : starEach [a, .Name T p2] X.env = (false, eval a X.env) :: starEach [.Name T p2] X.env := by rfl) (h2 : starEach [.Name T p2] X.env = (false, eval (.Name T p2) X.env) :: starEach [] X.env := by rfl)
    (hpl : (backTo pos (starEach [.Name T p2] X.env)).any (·.1) = false := by rfl) :
    PE X (.Call (.Name "isinstance" p) [a, .Name T p2] [] pos) (tCB (rIsi X.K) (tCons ta (tCons (tC (.ty n)) tNil))) :=
  pe_callB call_isi hg hm (by decide +kernel) (pa_cons ha (pa_cons (pe_bltn hgT hT hv rfl hn hd) pa_nil h2) h1) (by decide) (by decide) h1 hpl
section
variable {P : Program} {w : World} {K : PySem.W.Frag} {mg : Str → Option Value} {base : Heap}
/-! ### is_integer, is_between, is_base, check_between, check_parted -/
theorem scIsInt : FnScope ["value"] ["value"] (defScope sIsInt) := ⟨rfl, rfl, rfl, by decide +kernel, rfl, by decide +kernel, by decide +kernel⟩
def spIsInt : Sp := fun vs H Q _ => ∃ i : Int, vs = [.int i] ∧ Q (.bl true) H
theorem ok_isInt (h : Has K mg "is_integer" sIsInt ["value"]) (B : Bl mg) : Ok P w K mg base 1 "is_integer" ["value"] spIsInt := by
  refine Ok.mk h scIsInt (fun vs H Q E h => ?_) (fun f cdv A outer s H vs Q E hr h => ?_)
  · obtain ⟨i, rfl, _⟩ := h
    rfl
  · obtain ⟨i, rfl, q⟩ := h
    refine ⟨_, pss_one (ps_ret (pe_and (pe_isi (n := "int") (pv 0) B.isinstance B.int) (pe_one (pe_not (pe_isi (n := "bool") (pv 0) B.isinstance B.bool))))), ?_⟩
    refine ⟨_, rfl, _, _, _, _, true, rfl, .ty "int", .base (.int i), kit_ty (by decide +kernel), true, rfl, iteT ?_⟩
    exact ⟨_, rfl, _, _, _, _, false, rfl, .ty "bool", .base (.int i), kit_ty (by decide +kernel), false, rfl, q⟩
theorem scIsBetween : FnScope ["value", "low", "high"] ["value", "low", "high"] (defScope sIsBetween) := ⟨rfl, rfl, rfl, by decide +kernel, rfl, by decide +kernel, by decide +kernel⟩
def spIsBetween : Sp := fun vs H Q _ => ∃ i lo hi : Int, vs = [.int i, .int lo, .int hi] ∧ lo ≤ i ∧ i ≤ hi ∧ Q (.bl true) H
theorem ok_isBetween (h : Has K mg "is_between" sIsBetween ["value", "low", "high"]) (g : Ok P w K mg base 1 "is_integer" ["value"] spIsInt) : Ok P w K mg base 2 "is_between" ["value", "low", "high"] spIsBetween := by
  refine Ok.mk h scIsBetween (fun vs H Q E h => ?_) (fun f cdv A outer s H vs Q E hr h => ?_)
  · obtain ⟨i, lo, hi, rfl, _⟩ := h
    rfl
  · obtain ⟨i, lo, hi, rfl, h1, h2, q⟩ := h
    refine ⟨_, pss_one (ps_ret (pe_and (pcall g hr (pa_cons (pv 0) pa_nil)) (pe_one (pe_chain op_le op_le (pv 1) (pv 0) (pv 2))))), ?_⟩
    refine ⟨_, rfl, i, rfl, true, rfl, iteT ?_⟩
    refine ⟨_, rfl, _, rfl, _, _, rfl, rfl, _, rfl, iteD h1 ?_⟩
    refine ⟨_, rfl, _, _, rfl, rfl, ?_⟩
    show Q (.bl (decide (i ≤ hi))) H
    rw [decide_eq_true h2]
    exact q
theorem scIsBase : FnScope ["value"] ["value"] (defScope sIsBase) := ⟨rfl, rfl, rfl, by decide +kernel, rfl, by decide +kernel, by decide +kernel⟩
def spIsBase : Sp := fun vs H Q _ => ∃ i : Int, vs = [.int i] ∧ 0 ≤ i ∧ Q (.bl true) H
theorem ok_isBase (h : Has K mg "is_base" sIsBase ["value"]) (g : Ok P w K mg base 1 "is_integer" ["value"] spIsInt) : Ok P w K mg base 2 "is_base" ["value"] spIsBase := by
  refine Ok.mk h scIsBase (fun vs H Q E h => ?_) (fun f cdv A outer s H vs Q E hr h => ?_)
  · obtain ⟨i, rfl, _⟩ := h
    rfl
  · obtain ⟨i, rfl, h1, q⟩ := h
    refine ⟨_, pss_one (ps_ret (pe_and (pcall g hr (pa_cons (pv 0) pa_nil)) (pe_one (pe_cmpR op_ge (pv 0) pe_int (nomark _))))), ?_⟩
    refine ⟨_, rfl, i, rfl, true, rfl, iteT ⟨_, rfl, _, _, rfl, rfl, ?_⟩⟩
    show Q (.bl (decide ((0 : Int) ≤ i))) H
    rw [decide_eq_true h1]
    exact q
theorem scCkBetween : FnScope ["value", "low", "high"] ["value", "low", "high"] (defScope sCkBetween) := ⟨rfl, rfl, rfl, by decide +kernel, rfl, by decide +kernel, by decide +kernel⟩
def spCkBetween : Sp := fun vs H Q _ => ∃ i lo hi : Int, vs = [.int i, .int lo, .int hi] ∧ lo ≤ i ∧ i ≤ hi ∧ Q .non H
theorem ok_ckBetween (h : Has K mg "check_between" sCkBetween ["value", "low", "high"]) (g : Ok P w K mg base 2 "is_between" ["value", "low", "high"] spIsBetween) : Ok P w K mg base 3 "check_between" ["value", "low", "high"] spCkBetween := by
  refine Ok.mk h scCkBetween (fun vs H Q E h => ?_) (fun f cdv A outer s H vs Q E hr h => ?_)
  · obtain ⟨i, lo, hi, rfl, _⟩ := h
    rfl
  · obtain ⟨i, lo, hi, rfl, h1, h2, q⟩ := h
    refine ⟨_, pss_one (ps_if (pt_not (pt_val (pcall g hr (pa_cons (pv 0) (pa_cons (pv 1) (pa_cons (pv 2) pa_nil)))))) pss_never pss_nil), ?_⟩
    exact ⟨_, rfl, _, rfl, _, rfl, i, lo, hi, rfl, h1, h2, true, rfl, iteF q⟩
theorem scCkParted : FnScope ["base"] ["base"] (defScope sCkParted) := ⟨rfl, rfl, rfl, by decide +kernel, rfl, by decide +kernel, by decide +kernel⟩
def spCkParted : Sp := fun vs H Q _ => ∃ i : Int, vs = [.int i] ∧ 0 < i ∧ Q .non H
theorem ok_ckParted (h : Has K mg "check_parted" sCkParted ["base"]) (g : Ok P w K mg base 2 "is_base" ["value"] spIsBase) : Ok P w K mg base 3 "check_parted" ["base"] spCkParted := by
  refine Ok.mk h scCkParted (fun vs H Q E h => ?_) (fun f cdv A outer s H vs Q E hr h => ?_)
  · obtain ⟨i, rfl, _⟩ := h
    rfl
  · obtain ⟨i, rfl, h1, q⟩ := h
    refine ⟨_, pss_one (ps_if (PW.pt (pw_or (pt_not (pt_val (pcall g hr (pa_cons (pv 0) pa_nil)))) (pw_or1 (pt_cmpR op_eq (pv 0) pe_int (nomark _))))) pss_never pss_nil), ?_⟩
    refine ⟨_, rfl, i, rfl, by omega, true, rfl, iteF ⟨_, rfl, rfl, _, rfl, ?_⟩⟩
    rw [decide_eq_false (vne (show i ≠ 0 by omega))]
    exact iteF q
/-! ### check_facts, all_quarrels, check_machine: no facts -/
theorem scCkFacts : FnScope ["facts", "most", "at", "fact"] ["facts", "most"] (defScope sCkFacts) := ⟨rfl, rfl, rfl, by decide +kernel, rfl, by decide +kernel, by decide +kernel⟩
def spCkFacts : Sp := fun vs H Q _ => ∃ (F : Addr) (v : V), vs = [.ref F, v] ∧ H F = some (.tup []) ∧ Q .non H
theorem ok_ckFacts (h : Has K mg "check_facts" sCkFacts ["facts", "most"]) (B : Bl mg) : Ok P w K mg base 1 "check_facts" ["facts", "most"] spCkFacts := by
  refine Ok.mk h scCkFacts (fun vs H Q E h => ?_) (fun f cdv A outer s H vs Q E hr h => ?_)
  · obtain ⟨F, v, rfl, _⟩ := h
    rfl
  · obtain ⟨F, v, rfl, hF, q⟩ := h
    refine ⟨_, pss_cons (ps_if (pt_not (pt_val (pe_isi (n := "tuple") (pv 0) B.isinstance B.tuple))) pss_never pss_nil)
      (pss_one (ps_for PassesOwn.never rfl (pi_enumT B.enumerate (pa_cons (pv 0) pa_nil)) (pg_tup rfl (pgs_cons (pg_name (i := 2) scCkFacts.nd rfl (.inl rfl)) (pgs_cons (pg_name (i := 3) scCkFacts.nd rfl (.inl rfl)) pgs_nil))) pss_never)), ?_⟩
    refine ⟨_, rfl, _, _, _, _, true, rfl, .ty "tuple", .base (.tup hF), kit_ty (by decide +kernel), true, rfl, iteF ?_⟩
    refine ⟨_, rfl, F, [], rfl, .inl (.inl hF), for_enumT (xs := []) (fun i σ H2 => i = 0 ∧ H2 = H) ⟨rfl, rfl⟩ (fun i σ H2 ⟨_, e⟩ => by rw [e]; exact .inl (.inl hF)) (fun i x T σ H2 hx _ _ => by simp at hx) (fun σ H2 ⟨_, e⟩ => by rw [e]; exact q)⟩
theorem scAllQ : FnScope ["facts", "found", "second", "fact"] ["facts"] (defScope sAllQ) := ⟨rfl, rfl, rfl, by decide +kernel, rfl, by decide +kernel, by decide +kernel⟩
def spAllQ : Sp := fun vs H Q _ => ∃ F : Addr, vs = [.ref F] ∧ H F = some (.tup []) ∧ ∀ (H' : Hp) (p : Addr), Same H H' → H' p = some (.lst []) → Q (.ref p) H'
theorem ok_allQ (h : Has K mg "all_quarrels" sAllQ ["facts"]) (B : Bl mg) : Ok P w K mg base 1 "all_quarrels" ["facts"] spAllQ := by
  refine Ok.mk h scAllQ (fun vs H Q E h => ?_) (fun f cdv A outer s H vs Q E hr h => ?_)
  · obtain ⟨F, rfl, _⟩ := h
    rfl
  · obtain ⟨F, rfl, hF, q⟩ := h
    refine ⟨_, pss_cons (ps_set (i := 1) scAllQ.nd rfl (.inl rfl) (pe_lst pa_nil))
      (pss_cons (ps_for PassesOwn.never rfl (pi_enumT B.enumerate (pa_cons (pv 0) pa_nil)) (pg_tup rfl (pgs_cons (pg_name (i := 2) scAllQ.nd rfl (.inr rfl)) (pgs_cons (pg_name (i := 3) scAllQ.nd rfl (.inr rfl)) pgs_nil))) pss_never)
      (pss_one (ps_ret (pe_callB cr_sortedI (by rfl) B.sorted (by decide +kernel) (pa_cons (pv 1) pa_nil))))), ?_⟩
    refine ⟨Nat.zero_le _, fun p np => ?_⟩
    have s1 : Same H (upd H p (.lst [])) := same_upd np
    refine ⟨_, rfl, F, [], rfl, .inl (.inl (s1 _ _ hF)), for_enumT (xs := []) (fun i σ H2 => i = 0 ∧ H2 = upd H p (.lst []) ∧ σ[1]? = some (some (.ref p))) ⟨rfl, rfl, rfl⟩ (fun i σ H2 ⟨_, e, _⟩ => by rw [e]; exact .inl (.inl (s1 _ _ hF))) (fun i x T σ H2 hx _ _ => by simp at hx) (fun σ H2 ⟨_, e, e2⟩ => ?_)⟩
    subst e
    refine ⟨_, e2, p, [], rfl, .inl (.inl upd_same), fun ns' r hp _ nr => ?_⟩
    have e3 : ns' = [] := List.Perm.eq_nil hp
    subst e3
    exact q _ r (s1.trans (same_upd nr)) upd_same
theorem scCkMachine : FnScope ["facts", "found"] ["facts"] (defScope sCkMachine) := ⟨rfl, rfl, rfl, by decide +kernel, rfl, by decide +kernel, by decide +kernel⟩
def spCkMachine : Sp := fun vs H Q _ => ∃ F : Addr, vs = [.ref F] ∧ H F = some (.tup []) ∧ ∀ H' : Hp, Same H H' → Q .non H'
theorem ok_ckMachine (h : Has K mg "check_machine" sCkMachine ["facts"]) (g : Ok P w K mg base 1 "all_quarrels" ["facts"] spAllQ) : Ok P w K mg base 2 "check_machine" ["facts"] spCkMachine := by
  refine Ok.mk h scCkMachine (fun vs H Q E h => ?_) (fun f cdv A outer s H vs Q E hr h => ?_)
  · obtain ⟨F, rfl, _⟩ := h
    rfl
  · obtain ⟨F, rfl, hF, q⟩ := h
    refine ⟨_, pss_cons (ps_set (i := 1) scCkMachine.nd rfl (.inl rfl) (pcall g hr (pa_cons (pv 0) pa_nil)))
      (pss_one (ps_if (pt_cmpR (op_neD hr.units) (pv 1) (pe_lst pa_nil) (nomark _)) pss_never pss_nil)), ?_⟩
    refine ⟨_, rfl, F, rfl, hF, fun H1 p s1 hp => ?_⟩
    refine ⟨_, rfl, Nat.zero_le _, fun r nr => ?_⟩
    have s2 : Same H1 (upd H1 r (.lst [])) := same_upd nr
    refine ⟨.list [], .list [], .lst (.inl (.inl (s2 _ _ hp))) .nil, .lst (.inl (.inl upd_same)) .nil, by decide +kernel, by decide +kernel, _, rfl, ?_⟩
    exact q _ (s1.trans s2)
end
end K38

namespace K38
open PySem PySem.Spec PyProof.Rows L2
/-- the places 0 .. size - 1 -/
def pls (size : Nat) : List V := rgV 0 (size : Int)
theorem pls_length (size : Nat) : (pls size).length = size := by
  unfold pls
  rw [rgV_length]
  omega
theorem pls_get {size i : Nat} (h : i < size) : (pls size)[i]? = some (.int ((i : Nat) : Int)) := by
  unfold pls rgV
  rw [List.getElem?_map, List.getElem?_range (by omega)]
  show some (V.int (0 + (i : Int))) = _
  rw [Int.zero_add]
theorem pls_at {size i : Nat} {x : V} (h : (pls size)[i]? = some x) : i < size ∧ x = .int ((i : Nat) : Int) := by
  have hl : i < (pls size).length := (List.getElem?_eq_some_iff.mp h).1
  rw [pls_length] at hl
  rw [pls_get hl] at h
  exact ⟨hl, (Option.some.inj h).symm⟩
theorem ints_ok (f : Nat → Int) : ∀ l : List Nat, PyData.canLayAll0 (l.map fun i => PyData.int (f i)) = true ∧ PyData.depthAll (l.map fun i => PyData.int (f i)) ≤ 1
  | [] => ⟨rfl, Nat.zero_le _⟩
  | a :: l => by
    obtain ⟨h1, h2⟩ := ints_ok f l
    rw [List.map_cons]
    refine ⟨?_, ?_⟩
    · simp only [PyData.canLayAll0, PyData.canLay0, h1, Bool.and_self]
    · simp only [PyData.depthAll, PyData.depth]
      omega
theorem shaped_tup (f : Nat → Int) (l : List Nat) : SeqAt.shaped (.tuple (l.map fun i => PyData.int (f i))) = true := by
  obtain ⟨h1, h2⟩ := ints_ok f l
  show (PyData.canLayAll0 (l.map fun i => PyData.int (f i)) && decide (PyData.depthAll (l.map fun i => PyData.int (f i)) + 1 ≤ 64)) = true
  rw [h1]
  refine decide_eq_true ?_
  omega
theorem shaped_lst (f : Nat → Int) (l : List Nat) : SeqAt.shaped (.list (l.map fun i => PyData.int (f i))) = true := by
  obtain ⟨h1, h2⟩ := ints_ok f l
  show (PyData.canLayAll0 (l.map fun i => PyData.int (f i)) && decide (PyData.depthAll (l.map fun i => PyData.int (f i)) + 1 ≤ 64)) = true
  rw [h1]
  refine decide_eq_true ?_
  omega
section
variable {P : Program} {w : World} {K : PySem.W.Frag} {mg : Str → Option Value} {base : Heap}
/-! ### check_places -/
theorem scCkPlaces : FnScope ["places", "at", "place"] ["places"] (defScope sCkPlaces) := ⟨rfl, rfl, rfl, by decide +kernel, rfl, by decide +kernel, by decide +kernel⟩
def spCkPlaces : Sp := fun vs H Q _ => ∃ (F : Addr) (size : Nat), vs = [.ref F] ∧ H F = some (.tup (pls size)) ∧ 0 < size ∧ size ≤ 40 ∧ ∀ H' : Hp, Same H H' → Q .non H'
theorem ok_ckPlaces (h : Has K mg "check_places" sCkPlaces ["places"]) (g : Ok P w K mg base 1 "is_integer" ["value"] spIsInt) (B : Bl mg) (m : ∃ t, mg "MOST_PLACES" = some (.int 40 t)) : Ok P w K mg base 2 "check_places" ["places"] spCkPlaces := by
  refine Ok.mk h scCkPlaces (fun vs H Q E h => ?_) (fun f cdv A outer s H vs Q E hr h => ?_)
  · obtain ⟨F, size, rfl, _⟩ := h
    rfl
  · obtain ⟨F, size, rfl, hF, h0, h40, q⟩ := h
    obtain ⟨t, hm⟩ := m
    refine ⟨_, pss_cons (ps_if (PW.pt (pw_or (pt_not (pt_val (pe_isi (n := "tuple") (pv 0) B.isinstance B.tuple))) (pw_or1 (pt_cmpR (op_eqD hr.units) (pv 0) (pe_tup pa_nil) (nomark _))))) pss_never pss_nil)
      (pss_one (ps_for PassesOwn.never rfl (pi_enumT B.enumerate (pa_cons (pv 0) pa_nil)) (pg_tup rfl (pgs_cons (pg_name (i := 1) scCkPlaces.nd rfl (.inl rfl)) (pgs_cons (pg_name (i := 2) scCkPlaces.nd rfl (.inl rfl)) pgs_nil)))
        (pss_one (ps_if (PW.pt (pw_or (pt_cmpR op_eq (pv 1) (pe_glob (v := .int 40) (by rfl) hm ⟨_, rfl⟩) (nomark _)) (pw_or (pt_not (pt_val (pcall g hr (pa_cons (pv 2) pa_nil)))) (pw_or1 (PW.pt (pw_and (pt_cmpR op_gt (pv 1) pe_int (nomark _))
          (pw_and1 (pt_cmpR op_ge (pe_ix ix_tup (pv 0) (pe_op op_sub (pv 1) pe_int) (fun _ _ => rfl)) (pv 2) (nomark _))))))))) pss_never pss_nil)))), ?_⟩
    refine ⟨_, rfl, _, _, _, _, true, rfl, .ty "tuple", .base (.tup hF), kit_ty (by decide +kernel), true, rfl, iteF ?_⟩
    -- places == ()
    refine ⟨_, rfl, Nat.zero_le _, fun r nr => ?_⟩
    have s1 : Same H (upd H r (.tup [])) := same_upd nr
    have hds : ∀ (xs : List Nat), DpAll K (upd H r (.tup [])) (xs.map fun i => V.int (0 + (i : Nat))) (xs.map fun i => PyData.int (0 + (i : Nat))) := by
      intro xs
      induction xs with
      | nil => exact .nil
      | cons a l ih => exact .cons (.int _) ih
    have hne : PyData.eqv (.tuple ((List.range ((size : Int) - 0).toNat).map fun i => PyData.int (0 + (i : Nat)))) (.tuple []) = false := by
      have e : ((size : Int) - 0).toNat = (size - 1) + 1 := by omega
      rw [e, List.range_succ_eq_map]
      rfl
    have hsh : SeqAt.shaped (.tuple ((List.range ((size : Int) - 0).toNat).map fun i => PyData.int (0 + (i : Nat)))) = true := shaped_tup (fun i => 0 + (i : Nat)) _
    refine ⟨_, .tuple [], .tup (.inl (.inl (s1 _ _ hF))) (hds _), .tup (.inl (.inl upd_same)) .nil, hsh, by decide +kernel, _, rfl, ?_⟩
    rw [hne]
    refine iteF ?_
    refine ⟨_, rfl, F, pls size, rfl, .inl (.inl (s1 _ _ hF)), for_enumT (xs := pls size) (fun i σ H2 => (∃ y1 y2, σ = [some (.ref F), y1, y2]) ∧ Same H H2) ⟨⟨_, _, rfl⟩, s1⟩ (fun i σ H2 ⟨_, e⟩ => .inl (.inl (e _ _ hF))) (fun i x T σ H2 hx hP nT => ?_) (fun σ H2 ⟨_, e⟩ => q _ e)⟩
    obtain ⟨⟨y1, y2, rfl⟩, s2⟩ := hP
    obtain ⟨hi, rfl⟩ := pls_at hx
    have s3 : Same H (upd H2 T (.tup [.int (i : Nat), .int (i : Nat)])) := s2.trans (same_upd nT)
    refine ⟨T, _, rfl, .inl (.inl upd_same), rfl, _, _, rfl, _, _, rfl, rfl, ?_⟩
    refine ⟨_, rfl, rfl, _, rfl, iteN (vne (by omega)) ?_⟩
    refine ⟨_, rfl, _, rfl, true, rfl, iteF ?_⟩
    refine ⟨_, rfl, _, _, rfl, rfl, _, rfl, ite2 (fun hi0 => ?_) (fun hi0 => ?_)⟩
    · have hi1 : (0 : Int) < ((i : Nat) : Int) := of_decide_eq_true hi0
      have e1 : ((i : Nat) : Int) - 1 = ((i - 1 : Nat) : Int) := by omega
      refine ⟨_, rfl, _, rfl, _, _, rfl, rfl, F, pls size, _, _, rfl, rfl, .inl (.inl (s3 _ _ hF)), (by rw [e1]; exact atI_nat (pls_get (show i - 1 < size by omega))), _, rfl, _, _, rfl, rfl, _, rfl, ?_⟩
      refine iteN (show ¬ ((i : Nat) : Int) ≤ ((i - 1 : Nat) : Int) by omega) ?_
      exact ⟨⟨_, _, rfl⟩, s3⟩
    · exact ⟨⟨_, _, rfl⟩, s3⟩
end
end K38

namespace K38
open PySem PySem.Spec PyProof.Rows L2
theorem up2 {n a b : Nat} (h : n < 2 ^ a) (hab : a ≤ b) : n < 2 ^ b := Nat.lt_of_lt_of_le h (Nat.pow_le_pow_right (by decide) hab)
/-- at L the facts of the places 0 .. k - 1, each by n, with a rest below n -/
def Told (n : Nat) (H : Hp) (L : Addr) (k : Nat) : Prop := ∃ ts : List Addr, ts.length = k ∧ H L = some (.lst (ts.map V.ref)) ∧
  ∀ (j : Nat) (t : Addr), ts[j]? = some t → ∃ r : Int, 0 ≤ r ∧ r < (n : Int) ∧ H t = some (.tup [.int (j : Nat), .int r, .int (n : Nat)])
section
variable {P : Program} {w : World} {K : PySem.W.Frag} {mg : Str → Option Value} {base : Heap}
/-! ### known_by -/
theorem scKnownBy : FnScope ["facts", "place", "found", "spot", "rest", "base", "shared"] ["facts", "place"] (defScope sKnownBy) := ⟨rfl, rfl, rfl, by decide +kernel, rfl, by decide +kernel, by decide +kernel⟩
def spKnownBy : Sp := fun vs H Q _ => ∃ (L : Addr) (k n : Nat), vs = [.ref L, .int (k : Nat)] ∧ Told n H L k ∧ 0 < n ∧ n < 2 ^ 70 ∧
  ∀ (H' : Hp) (p : Addr) (z : Int), Same H H' → H' p = some (.tup [.int z, .int (kn n k k : Nat)]) → Q (.ref p) H'
theorem ok_knownBy (h : Has K mg "known_by" sKnownBy ["facts", "place"]) (g : Ok P w K mg base 1 "gcd" ["one", "other"] spGcd) (m : Ok P w K mg base 3 "met" ["one", "other"] spMet) (r : Ok P w K mg base 1 "rest_by" ["number", "base"] spRestBy) :
    Ok P w K mg base 4 "known_by" ["facts", "place"] spKnownBy := by
  refine Ok.mk h scKnownBy (fun vs H Q E h => ?_) (fun f cdv A outer s H vs Q E hr h => ?_)
  · obtain ⟨L, k, n, rfl, _⟩ := h
    rfl
  · obtain ⟨L, k, n, rfl, ⟨ts, hts, hL, hT⟩, hn, ln, q⟩ := h
    refine ⟨_, pss_cons (ps_set (i := 2) scKnownBy.nd rfl (.inl rfl) (pe_tup (pa_cons pe_int (pa_cons pe_int pa_nil))))
      (pss_cons (ps_for PassesOwn.never rfl (pi_list (pv 0)) (pg_tup rfl (pgs_cons (pg_name (i := 3) scKnownBy.nd rfl (.inl rfl)) (pgs_cons (pg_name (i := 4) scKnownBy.nd rfl (.inl rfl)) (pgs_cons (pg_name (i := 5) scKnownBy.nd rfl (.inl rfl)) pgs_nil))))
        (pss_cons (ps_set (i := 6) scKnownBy.nd rfl (.inl rfl) (pcall g hr (pa_cons (pv 5) (pa_cons (pe_op op_sub (pv 1) (pv 3)) pa_nil))))
        (pss_one (ps_set (i := 2) scKnownBy.nd rfl (.inl rfl) (pcall m hr (pa_cons (pv 2) (pa_cons (pe_tup (pa_cons (pcall r hr (pa_cons (pv 4) (pa_cons (pv 6) pa_nil))) (pa_cons (pv 6) pa_nil))) pa_nil)))))))
      (pss_one (ps_ret (pv 2)))), ?_⟩
    refine ⟨by show 2 ≤ sizeLine; decide, fun p0 np0 => ?_⟩
    refine ⟨_, rfl, L, rfl, ⟨_, .inl (.inl (same_upd np0 _ _ hL))⟩, for_list (K := K) (a := L) (xs := ts.map V.ref)
      (fun i σ H2 => ∃ (p : Addr) (z : Int) (y3 y4 y5 y6 : Option V), σ = [some (.ref L), some (.int (k : Nat)), some (.ref p), y3, y4, y5, y6] ∧ Same H H2 ∧ H2 p = some (.tup [.int z, .int (kn n k i : Nat)]) ∧ 0 ≤ z ∧ z < (kn n k i : Nat))
      ⟨p0, 0, none, none, none, none, rfl, same_upd np0, upd_same, by decide, by show (0 : Int) < ((1 : Nat) : Int); decide⟩ ?_ ?_ ?_⟩
    · rintro i σ H2 _ ⟨_, _, _, _, _, _, _, sm, _⟩
      exact .inl (.inl (sm _ _ hL))
    · rintro i x σ H2 hx ⟨p, z, y3, y4, y5, y6, rfl, sm, hp, z0, z1⟩
      rw [List.getElem?_map] at hx
      obtain ⟨t, ht, rfl⟩ := Option.map_eq_some_iff.mp hx
      have hik : i < k := by
        have := (List.getElem?_eq_some_iff.mp ht).1
        omega
      obtain ⟨r, r0, r1, hTt⟩ := hT i t ht
      have hg : 0 < Nat.gcd n (k - i) := Nat.gcd_pos_of_pos_left _ hn
      have hgn : Nat.gcd n (k - i) ≤ n := Nat.gcd_le_left _ hn
      have hkn := kn_le hn k i
      have hk0 := kn_pos hn k i
      refine ⟨t, _, rfl, .inl (.inl (sm _ _ hTt)), rfl, _, _, rfl, _, _, rfl, _, _, rfl, rfl, ?_⟩
      refine ⟨_, rfl, _, rfl, _, rfl, _, _, rfl, rfl, _, _, rfl, ?_⟩
      have eg : Nat.gcd ((n : Nat) : Int).natAbs (((k : Nat) : Int) - ((i : Nat) : Int)).natAbs = Nat.gcd n (k - i) := by
        rw [Int.natAbs_natCast]
        congr 1
        omega
      rw [eg]
      have m0 := Int.emod_nonneg r (show ((Nat.gcd n (k - i) : Nat) : Int) ≠ 0 by omega)
      have m1 := Int.emod_lt_of_pos r (show (0 : Int) < ((Nat.gcd n (k - i) : Nat) : Int) by omega)
      refine ⟨_, rfl, _, rfl, _, rfl, r, Nat.gcd n (k - i), rfl, hg, _, rfl, by show 2 ≤ sizeLine; decide, fun t2 nt2 => ?_⟩
      have sm2 : Same H2 (upd H2 t2 (.tup [.int (r % ((Nat.gcd n (k - i) : Nat) : Int)), .int ((Nat.gcd n (k - i) : Nat) : Int)])) := same_upd nt2
      refine ⟨p, t2, z, _, kn n k i, Nat.gcd n (k - i), rfl, sm2 _ _ hp, upd_same, hk0, hg, up2 (a := 70) (by omega) (by decide), up2 (a := 70) (by omega) (by decide), z0, by omega, m0, by omega, fun H3 p3 z3 sm3 _ hp3 h0 h1 => ?_⟩
      exact ⟨p3, z3, _, _, _, _, rfl, (sm.trans sm2).trans sm3, hp3, h0, h1⟩
    · rintro σ H2 ⟨p, z, y3, y4, y5, y6, rfl, sm, hp, z0, z1⟩
      rw [List.length_map, hts] at hp
      exact ⟨_, rfl, q H2 p z sm hp⟩
/-! ### least_rest -/
theorem scLeast : FnScope ["told", "place", "base", "rest", "part", "step"] ["told", "place", "base"] (defScope sLeast) := ⟨rfl, rfl, rfl, by decide +kernel, rfl, by decide +kernel, by decide +kernel⟩
def spLeast : Sp := fun vs H Q _ => ∃ (L : Addr) (k n : Nat), vs = [.ref L, .int (k : Nat), .int (n : Nat)] ∧ Told n H L k ∧ 0 < n ∧ n < 2 ^ 70 ∧
  ∀ (H' : Hp) (p : Addr) (z : Int), Same H H' → H' p = some (.tup [.int z, .int (Nat.gcd n (kn n k k) : Nat)]) → 0 ≤ z → z < (n : Int) → Q (.ref p) H'
theorem ok_least (h : Has K mg "least_rest" sLeast ["told", "place", "base"]) (b : Ok P w K mg base 4 "known_by" ["facts", "place"] spKnownBy) (g : Ok P w K mg base 1 "gcd" ["one", "other"] spGcd) :
    Ok P w K mg base 5 "least_rest" ["told", "place", "base"] spLeast := by
  refine Ok.mk h scLeast (fun vs H Q E h => ?_) (fun f cdv A outer s H vs Q E hr h => ?_)
  · obtain ⟨L, k, n, rfl, _⟩ := h
    rfl
  · obtain ⟨L, k, n, rfl, hT, hn, ln, q⟩ := h
    refine ⟨_, pss_cons (ps_asg (pcall b hr (pa_cons (pv 0) (pa_cons (pv 1) pa_nil))) (pg_tup rfl (pgs_cons (pg_name (i := 3) scLeast.nd rfl (.inl rfl)) (pgs_cons (pg_name (i := 4) scLeast.nd rfl (.inl rfl)) pgs_nil))))
      (pss_cons (ps_set (i := 5) scLeast.nd rfl (.inl rfl) (pcall g hr (pa_cons (pv 2) (pa_cons (pv 4) pa_nil))))
      (pss_one (ps_ret (pe_tup (pa_cons (pe_op op_mod (pv 3) (pv 5)) (pa_cons (pv 5) pa_nil)))))), ?_⟩
    refine ⟨_, rfl, _, rfl, L, k, n, rfl, hT, hn, ln, fun H1 p z sm hp => ?_⟩
    refine ⟨p, _, rfl, .inl (.inl hp), rfl, _, _, rfl, _, _, rfl, rfl, ?_⟩
    refine ⟨_, rfl, _, rfl, _, _, rfl, ?_⟩
    simp only [Int.natAbs_natCast]
    have hg : 0 < Nat.gcd n (kn n k k) := Nat.gcd_pos_of_pos_left _ hn
    have hgn : Nat.gcd n (kn n k k) ≤ n := Nat.gcd_le_left _ hn
    have g0 : (0 : Int) < ((Nat.gcd n (kn n k k) : Nat) : Int) := by omega
    have m0 := Int.emod_nonneg z (show ((Nat.gcd n (kn n k k) : Nat) : Int) ≠ 0 by omega)
    have m1 := Int.emod_lt_of_pos z g0
    refine ⟨_, rfl, _, rfl, _, _, rfl, rfl, g0, _, rfl, by show 2 ≤ sizeLine; decide, fun p2 np2 => ?_⟩
    exact q _ p2 _ (sm.trans (same_upd np2)) upd_same m0 (by omega)
end
end K38

namespace K38
open PySem PySem.Spec PyProof.Rows L2
/-- counts as values -/
abbrev ncs (l : List Nat) : List V := l.map fun c => V.int (c : Nat)
theorem told_more {n : Nat} {H H' : Hp} {L T : Addr} {k : Nat} {r : Int} {ts : List Addr} (hts : ts.length = k) (hT : ∀ (j : Nat) (t : Addr), ts[j]? = some t → ∃ r : Int, 0 ≤ r ∧ r < (n : Int) ∧ H t = some (.tup [.int (j : Nat), .int r, .int (n : Nat)]))
    (keep : ∀ t xs, H t = some (.tup xs) → H' t = some (.tup xs)) (hL : H' L = some (.lst (ts.map V.ref ++ [.ref T]))) (hN : H' T = some (.tup [.int (k : Nat), .int r, .int (n : Nat)])) (h0 : 0 ≤ r) (h1 : r < (n : Int)) : Told n H' L (k + 1) := by
  refine ⟨ts ++ [T], by rw [List.length_append, hts]; rfl, by rw [List.map_append]; exact hL, fun j t ht => ?_⟩
  by_cases hj : j < k
  · rw [List.getElem?_append_left (by omega)] at ht
    obtain ⟨r', a, b, c⟩ := hT j t ht
    exact ⟨r', a, b, keep _ _ c⟩
  · rw [List.getElem?_append_right (by omega), hts] at ht
    have e : j - k = 0 := by
      have := (List.getElem?_eq_some_iff.mp ht).1
      simp at this
      omega
    have ej : j = k := by omega
    rw [e] at ht
    have et : T = t := Option.some.inj ht
    subst et ej
    exact ⟨r, h0, h1, hN⟩
section
variable {P : Program} {w : World} {K : PySem.W.Frag} {mg : Str → Option Value} {base : Heap}
/-! ### numbers_of_rests -/
theorem scNums : FnScope ["facts", "places", "base", "told", "found", "place", "rest", "step"] ["facts", "places", "base"] (defScope sNums) := ⟨rfl, rfl, rfl, by decide +kernel, rfl, by decide +kernel, by decide +kernel⟩
def spNums : Sp := fun vs H Q _ => ∃ (F S : Addr) (size n : Nat), vs = [.ref F, .ref S, .int (n : Nat)] ∧ H F = some (.tup []) ∧ H S = some (.tup (pls size)) ∧ size ≤ 40 ∧ 0 < n ∧ n < 2 ^ 70 ∧
  ∀ (H' : Hp) (p : Addr), Same H H' → H' p = some (.lst (ncs (fcts n size))) → Q (.ref p) H'
theorem ok_nums (h : Has K mg "numbers_of_rests" sNums ["facts", "places", "base"]) (l : Ok P w K mg base 5 "least_rest" ["told", "place", "base"] spLeast) (B : Bl mg) :
    Ok P w K mg base 6 "numbers_of_rests" ["facts", "places", "base"] spNums := by
  refine Ok.mk h scNums (fun vs H Q E h => ?_) (fun f cdv A outer s H vs Q E hr h => ?_)
  · obtain ⟨F, S, size, n, rfl, _⟩ := h
    rfl
  · obtain ⟨F, S, size, n, rfl, hF, hS, h40, hn, ln, q⟩ := h
    refine ⟨_, pss_cons (ps_par (i := 3) (j := 4) rfl scNums.nd rfl rfl (by decide) rfl rfl (pa_cons (pe_callTy call_list_of (by rfl) B.list (by decide +kernel) (pa_cons (pv 0) pa_nil)) (pa_cons (pe_lst pa_nil) pa_nil)) (by rfl))
      (pss_cons (ps_for PassesOwn.never rfl (pi_tup (pv 1)) (pg_name (i := 5) scNums.nd rfl (.inl rfl))
        (pss_cons (ps_asg (pcall l hr (pa_cons (pv 3) (pa_cons (pv 5) (pa_cons (pv 2) pa_nil)))) (pg_tup rfl (pgs_cons (pg_name (i := 6) scNums.nd rfl (.inl rfl)) (pgs_cons (pg_name (i := 7) scNums.nd rfl (.inl rfl)) pgs_nil))))
        (pss_cons (ps_expr (pe_bm PySem.F.plainAttrs_list PySem.F.slot_list_append PySem.F.type_list_append mt_append (pv 3) (pa_cons (pe_tup (pa_cons (pv 5) (pa_cons (pv 6) (pa_cons (pv 2) pa_nil)))) pa_nil)))
        (pss_one (ps_expr (pe_bm PySem.F.plainAttrs_list PySem.F.slot_list_append PySem.F.type_list_append mt_append (pv 4) (pa_cons (pe_op op_fdivW (pv 2) (pv 7)) pa_nil)))))))
      (pss_one (ps_ret (pv 4)))), ?_⟩
    refine ⟨_, rfl, F, [], rfl, .inr (.inl (.inl hF)), fun L nL => ⟨Nat.zero_le _, fun O nO => ⟨_, _, rfl, ?_⟩⟩⟩
    have s1 : Same H (upd H L (.lst [])) := same_upd nL
    have s2 : Same (upd H L (.lst [])) (upd (upd H L (.lst [])) O (.lst [])) := same_upd nO
    have nLO : L ≠ O := ne_of_none upd_same nO
    have nO' : H O = none := s1.free nO
    refine ⟨_, rfl, S, rfl, ⟨_, .inl (.inl ((s1.trans s2) _ _ hS))⟩, for_tup (K := K) (a := S) (xs := pls size)
      (fun i σ H2 => ∃ y5 y6 y7 : Option V, σ = [some (.ref F), some (.ref S), some (.int (n : Nat)), some (.ref L), some (.ref O), y5, y6, y7] ∧ Same H H2 ∧ Told n H2 L i ∧ H2 O = some (.lst (ncs (fcts n i))))
      ⟨none, none, none, rfl, s1.trans s2, ⟨[], rfl, by rw [upd_ne nLO]; exact upd_same, fun j t ht => by simp at ht⟩, upd_same⟩ ?_ ?_ ?_⟩
    · rintro i σ H2 _ ⟨_, _, _, _, sm, _⟩
      exact .inl (.inl (sm _ _ hS))
    · rintro i x σ H2 hx ⟨y5, y6, y7, rfl, sm, hT, hO⟩
      obtain ⟨hi, rfl⟩ := pls_at hx
      refine ⟨_, rfl, _, rfl, _, rfl, L, i, n, rfl, hT, hn, ln, fun H3 p z sm3 hp z0 z1 => ?_⟩
      refine ⟨p, _, rfl, .inl (.inl hp), rfl, _, _, rfl, _, _, rfl, rfl, ?_⟩
      obtain ⟨ts, hts, hL, hTs⟩ := hT
      have hL3 := sm3 _ _ hL
      have hO3 := sm3 _ _ hO
      -- told.append
      refine ⟨_, rfl, .inl ⟨rfl, _, .inl (.inl hL3)⟩, _, rfl, _, rfl, _, rfl, by show 3 ≤ sizeLine; decide, fun T nT => ?_⟩
      have sT : Same H3 (upd H3 T (.tup [.int ((i : Nat) : Int), .int z, .int ((n : Nat) : Int)])) := same_upd nT
      have nLT : L ≠ T := ne_of_none hL3 nT
      have nOT : O ≠ T := ne_of_none hO3 nT
      refine ⟨L, _, _, rfl, rfl, sT _ _ hL3, by rw [List.length_map, hts]; exact small1000 (by omega), ?_⟩
      -- found.append
      have hO4 : ∀ o, (upd (upd H3 T (.tup [.int ((i : Nat) : Int), .int z, .int ((n : Nat) : Int)])) L o) O = some (.lst (ncs (fcts n i))) := fun o => by
        rw [upd_ne nLO.symm, upd_ne nOT]
        exact hO3
      have hg : 0 < Nat.gcd n (kn n i i) := Nat.gcd_pos_of_pos_left _ hn
      have hgn : Nat.gcd n (kn n i i) ≤ n := Nat.gcd_le_left _ hn
      have hgl : ((Nat.gcd n (kn n i i) : Nat) : Int).natAbs < 2 ^ 70 := by rw [Int.natAbs_natCast]; omega
      refine ⟨_, rfl, .inl ⟨rfl, _, .inl (.inl (hO4 _))⟩, _, rfl, _, rfl, _, _, rfl, rfl, wide_div (b := 70) (by omega) hgl (by decide) (by decide), ?_⟩
      refine ⟨O, _, _, rfl, rfl, hO4 _, by rw [List.length_map, fcts_length]; exact small1000 (by omega), ?_⟩
      refine ⟨_, _, _, rfl, ?_, ?_, ?_⟩
      · intro b o e
        have n1 : b ≠ O := ne_of_none e nO'
        have n2 : b ≠ L := ne_of_none e nL
        rw [upd_ne n1, upd_ne n2]
        exact sT _ _ (sm3 _ _ (sm _ _ e))
      · refine told_more (H := H2) (T := T) (r := z) hts hTs (fun t xs e => ?_) ?_ ?_ z0 z1
        · have e3 := sm3 _ _ e
          rw [upd_ne (ne_of e3 hO3 (by intro q; cases q)), upd_ne (ne_of e3 hL3 (by intro q; cases q))]
          exact sT _ _ e3
        · rw [upd_ne nLO]
          exact upd_same
        · rw [upd_ne nOT.symm, upd_ne nLT.symm]
          exact upd_same
      · rw [upd_same, fcts_succ]
        unfold ncs
        rw [List.map_append]
        show some (HO.lst (_ ++ [V.int (((n : Nat) : Int) / ((Nat.gcd n (kn n i i) : Nat) : Int))])) = some (HO.lst (_ ++ [V.int ((fct n i : Nat) : Int)]))
        rw [← Int.natCast_ediv]
        rfl
    · rintro σ H2 ⟨y5, y6, y7, rfl, sm, hT, hO⟩
      rw [pls_length] at hO
      exact ⟨_, rfl, q H2 O sm hO⟩
/-! ### product -/
theorem scProd : FnScope ["numbers", "found", "number"] ["numbers"] (defScope sProd) := ⟨rfl, rfl, rfl, by decide +kernel, rfl, by decide +kernel, by decide +kernel⟩
def spProd : Sp := fun vs H Q _ => ∃ (F : Addr) (size n : Nat), vs = [.ref F] ∧ H F = some (.lst (ncs (fcts n size))) ∧ size ≤ 40 ∧ 0 < n ∧ n < 2 ^ 70 ∧ Q (.int (cnt n size : Nat)) H
theorem ok_prod (h : Has K mg "product" sProd ["numbers"]) : Ok P w K mg base 1 "product" ["numbers"] spProd := by
  refine Ok.mk h scProd (fun vs H Q E h => ?_) (fun f cdv A outer s H vs Q E hr h => ?_)
  · obtain ⟨F, size, n, rfl, _⟩ := h
    rfl
  · obtain ⟨F, size, n, rfl, hF, h40, hn, ln, q⟩ := h
    refine ⟨_, pss_cons (ps_set (i := 1) scProd.nd rfl (.inl rfl) pe_int)
      (pss_cons (ps_for PassesOwn.never rfl (pi_list (pv 0)) (pg_name (i := 2) scProd.nd rfl (.inl rfl)) (pss_one (ps_set (i := 1) scProd.nd rfl (.inl rfl) (pe_op op_mulW (pv 1) (pv 2)))))
      (pss_one (ps_ret (pv 1)))), ?_⟩
    refine ⟨_, rfl, F, rfl, ⟨_, .inl (.inl hF)⟩, for_list (K := K) (a := F) (xs := ncs (fcts n size))
      (fun i σ H2 => H2 = H ∧ ∃ y2 : Option V, σ = [some (.ref F), some (.int (cnt n i : Nat)), y2]) ⟨rfl, none, rfl⟩ ?_ ?_ ?_⟩
    · rintro i σ H2 _ ⟨rfl, _⟩
      exact .inl (.inl hF)
    · rintro i x σ H2 hx ⟨rfl, y2, rfl⟩
      have hi : i < size := by
        have := (List.getElem?_eq_some_iff.mp hx).1
        rw [List.length_map, fcts_length] at this
        exact this
      have ex : x = .int (fct n i : Nat) := by
        rw [List.getElem?_map, fcts_get hi] at hx
        exact (Option.some.inj hx).symm
      subst ex
      have hf : fct n i ≤ n := Nat.div_le_self _ _
      refine ⟨_, rfl, _, rfl, _, _, rfl, rfl, wide_mul (a := 14100) (b := 70) ?_ ?_ (by decide) (by decide) (by decide), ?_⟩
      · rw [Int.natAbs_natCast]
        exact cnt_lt' ln (by omega)
      · rw [Int.natAbs_natCast]
        omega
      · refine ⟨rfl, some (.int (fct n i : Nat)), ?_⟩
        rw [cnt_succ hn, Int.natCast_mul]
        rfl
    · rintro σ H2 ⟨rfl, y2, rfl⟩
      rw [show (ncs (fcts n size)).length = size by rw [List.length_map, fcts_length]]
      exact ⟨_, rfl, q⟩
/-! ### check_asked, count_tables -/
theorem scCkAsked : FnScope ["facts", "places", "base"] ["facts", "places", "base"] (defScope sCkAsked) := ⟨rfl, rfl, rfl, by decide +kernel, rfl, by decide +kernel, by decide +kernel⟩
def spCkAsked : Sp := fun vs H Q _ => ∃ (F S : Addr) (size : Nat) (n : Int), vs = [.ref F, .ref S, .int n] ∧ H F = some (.tup []) ∧ H S = some (.tup (pls size)) ∧ 0 < size ∧ size ≤ 40 ∧ 0 < n ∧ ∀ H' : Hp, Same H H' → Q .non H'
theorem ok_ckAsked (h : Has K mg "check_asked" sCkAsked ["facts", "places", "base"]) (a : Ok P w K mg base 1 "check_facts" ["facts", "most"] spCkFacts) (b : Ok P w K mg base 2 "check_places" ["places"] spCkPlaces) (c : Ok P w K mg base 3 "check_parted" ["base"] spCkParted)
    (m : ∃ t, mg "MOST_FACTS" = some (.int 40 t)) : Ok P w K mg base 4 "check_asked" ["facts", "places", "base"] spCkAsked := by
  refine Ok.mk h scCkAsked (fun vs H Q E h => ?_) (fun f cdv A outer s H vs Q E hr h => ?_)
  · obtain ⟨F, S, size, n, rfl, _⟩ := h
    rfl
  · obtain ⟨F, S, size, n, rfl, hF, hS, h0, h40, hn, q⟩ := h
    obtain ⟨t, hm⟩ := m
    refine ⟨_, pss_cons (ps_expr (pcall a hr (pa_cons (pv 0) (pa_cons (pe_glob (v := .int 40) (by rfl) hm ⟨_, rfl⟩) pa_nil))))
      (pss_cons (ps_expr (pcall b hr (pa_cons (pv 1) pa_nil)))
      (pss_one (ps_expr (pcall c hr (pa_cons (pv 2) pa_nil))))), ?_⟩
    exact ⟨_, rfl, F, _, rfl, hF, _, rfl, S, size, rfl, hS, h0, h40, fun H1 s1 => ⟨_, rfl, n, rfl, hn, q H1 s1⟩⟩
theorem scTables : FnScope ["facts", "places", "base"] ["facts", "places", "base"] (defScope sTables) := ⟨rfl, rfl, rfl, by decide +kernel, rfl, by decide +kernel, by decide +kernel⟩
def spTables : Sp := fun vs H Q _ => ∃ (F S : Addr) (size n : Nat), vs = [.ref F, .ref S, .int (n : Nat)] ∧ H F = some (.tup []) ∧ H S = some (.tup (pls size)) ∧ 0 < size ∧ size ≤ 40 ∧ 0 < n ∧ n < 2 ^ 70 ∧ ∀ H' : Hp, Same H H' → Q (.int (cnt n size : Nat)) H'
theorem ok_tables (h : Has K mg "count_tables" sTables ["facts", "places", "base"]) (a : Ok P w K mg base 4 "check_asked" ["facts", "places", "base"] spCkAsked) (b : Ok P w K mg base 2 "check_machine" ["facts"] spCkMachine) (c : Ok P w K mg base 1 "product" ["numbers"] spProd)
    (d : Ok P w K mg base 6 "numbers_of_rests" ["facts", "places", "base"] spNums) : Ok P w K mg base 7 "count_tables" ["facts", "places", "base"] spTables := by
  refine Ok.mk h scTables (fun vs H Q E h => ?_) (fun f cdv A outer s H vs Q E hr h => ?_)
  · obtain ⟨F, S, size, n, rfl, _⟩ := h
    rfl
  · obtain ⟨F, S, size, n, rfl, hF, hS, h0, h40, hn, ln, q⟩ := h
    refine ⟨_, pss_cons (ps_expr (pcall a hr (pa_cons (pv 0) (pa_cons (pv 1) (pa_cons (pv 2) pa_nil)))))
      (pss_cons (ps_expr (pcall b hr (pa_cons (pv 0) pa_nil)))
      (pss_one (ps_ret (pcall c hr (pa_cons (pcall d hr (pa_cons (pv 0) (pa_cons (pv 1) (pa_cons (pv 2) pa_nil)))) pa_nil))))), ?_⟩
    refine ⟨_, rfl, _, rfl, _, rfl, F, S, size, n, rfl, hF, hS, h0, h40, by omega, fun H1 s1 => ⟨_, rfl, F, rfl, s1 _ _ hF, fun H2 s2 => ?_⟩⟩
    have s12 := s1.trans s2
    refine ⟨_, rfl, _, rfl, _, rfl, F, S, size, n, rfl, s12 _ _ hF, s12 _ _ hS, h40, hn, ln, fun H3 p s3 hp => ?_⟩
    exact ⟨p, size, n, rfl, hp, h40, hn, ln, q H3 (s12.trans s3)⟩
end
end K38

namespace K38
open PySem PySem.Spec PyProof.Rows L2
theorem max_if (i : Nat) : (if (1 : Int) > ((i : Nat) : Int) then (1 : Int) else ((i : Nat) : Int)) = ((max i 1 : Nat) : Int) := by
  split <;> omega
theorem up255 {i : Nat} (h : i ≤ 255) : max i 1 < 2 ^ 4000 := by
  have h1 : max i 1 < 2 ^ 8 := by
    have e : (2 : Nat) ^ 8 = 256 := by decide
    omega
  exact up2 h1 (by decide)
section
variable {P : Program} {w : World} {K : PySem.W.Frag} {mg : Str → Option Value} {base : Heap}
/-! ### count_all -/
theorem scAll : FnScope ["size", "base", "found", "part", "place"] ["size", "base"] (defScope sAll) := ⟨rfl, rfl, rfl, by decide +kernel, rfl, by decide +kernel, by decide +kernel⟩
def spAll : Sp := fun vs H Q _ => ∃ size n : Nat, vs = [.int (size : Nat), .int (n : Nat)] ∧ 0 < size ∧ size ≤ 200 ∧ 0 < n ∧ n < 2 ^ 70 ∧ ∀ H' : Hp, Same H H' → Q (.int (cnt n size : Nat)) H'
theorem fn_all {f : Addr} {fd : FuncData} (F : Fun K "count_all" "count_all" sAll f fd) (a : Ok P w K mg base 3 "check_between" ["value", "low", "high"] spCkBetween) (b : Ok P w K mg base 3 "check_parted" ["base"] spCkParted) (l : Ok P w K mg base 2 "lcm" ["one", "other"] spLcm) (g : Ok P w K mg base 1 "gcd" ["one", "other"] spGcd)
    (B : Bl mg) (m : ∃ t, mg "MOST_SIZE" = some (.int 200 t)) : FnOk P w K mg base CX0 4 f fd ["size", "base"] spAll := by
  refine F.ok scAll (fun vs H Q E h => ?_) (fun cdv A outer s H vs Q E hr h => ?_)
  · obtain ⟨size, n, rfl, _⟩ := h
    rfl
  · obtain ⟨size, n, rfl, h0, h200, hn, ln, q⟩ := h
    obtain ⟨t, hm⟩ := m
    refine ⟨_, pss_cons (ps_expr (pcall a hr (pa_cons (pv 0) (pa_cons pe_int (pa_cons (pe_glob (v := .int 200) (by rfl) hm ⟨_, rfl⟩) pa_nil)))))
      (pss_cons (ps_expr (pcall b hr (pa_cons (pv 1) pa_nil)))
      (pss_cons (ps_asg (pe_tup (pa_cons pe_int (pa_cons pe_int pa_nil))) (pg_tup rfl (pgs_cons (pg_name (i := 2) scAll.nd rfl (.inl rfl)) (pgs_cons (pg_name (i := 3) scAll.nd rfl (.inl rfl)) pgs_nil))))
      (pss_cons (ps_for PassesOwn.never rfl (pi_range1 (by rfl) B.range (pa_cons (pv 0) pa_nil)) (pg_name (i := 4) scAll.nd rfl (.inl rfl))
        (pss_cons (ps_set (i := 3) scAll.nd rfl (.inl rfl) (pcall l hr (pa_cons (pv 3) (pa_cons (pe_callB (call_max2 rfl) (by rfl) B.max (by decide +kernel) (pa_cons (pv 4) (pa_cons pe_int pa_nil))) pa_nil))))
        (pss_one (ps_set (i := 2) scAll.nd rfl (.inl rfl) (pe_op op_mulW (pv 2) (pe_op op_fdivW (pv 1) (pcall g hr (pa_cons (pv 1) (pa_cons (pv 3) pa_nil)))))))))
      (pss_one (ps_ret (pv 2)))))), ?_⟩
    refine ⟨_, rfl, _, _, _, rfl, by omega, by omega, _, rfl, _, rfl, by omega, by show 2 ≤ sizeLine; decide, fun p np => ?_⟩
    refine ⟨p, _, rfl, .inl (.inl upd_same), rfl, _, _, rfl, _, _, rfl, rfl, ?_⟩
    refine ⟨_, rfl, ((size : Nat) : Int), rfl, by omega, by omega, ?_⟩
    rw [Int.toNat_natCast]
    refine for_range (lo := 0) (n := size) (fun i σ H2 => H2 = upd H p (.tup [.int 1, .int 1]) ∧ ∃ y4 : Option V, σ = [some (.int (size : Nat)), some (.int (n : Nat)), some (.int (cnt n i : Nat)), some (.int (part i : Nat)), y4]) ⟨rfl, none, rfl⟩ ?_ ?_
    · rintro i σ H2 hi ⟨rfl, y4, rfl⟩
      simp only [Int.zero_add]
      have up : (2 : Nat) ^ 2000 ≤ 2 ^ 4000 := Nat.pow_le_pow_right (by decide) (by decide)
      have hp := part_pos i
      have hp1 := part_pos (i + 1)
      have hl := part_lt' (k := i) (by omega)
      have hl1 := part_lt' (k := i + 1) (by omega)
      have hg : 0 < Nat.gcd n (part (i + 1)) := Nat.gcd_pos_of_pos_left _ hn
      have hgn : Nat.gcd n (part (i + 1)) ≤ n := Nat.gcd_le_left _ hn
      refine ⟨_, rfl, _, rfl, _, _, rfl, part i, max i 1, ?_, hp, by omega, Nat.lt_of_lt_of_le hl up, up255 (by omega), ?_⟩
      · rw [max_if]
        rfl
      · refine ⟨_, rfl, _, rfl, _, rfl, _, rfl, _, _, rfl, ?_⟩
        simp only [Int.natAbs_natCast]
        have hgl : ((Nat.gcd n (part (i + 1)) : Nat) : Int).natAbs < 2 ^ 70 := by rw [Int.natAbs_natCast]; omega
        refine ⟨_, _, rfl, rfl, wide_div (b := 70) (show (0 : Int) < ((Nat.gcd n (part (i + 1)) : Nat) : Int) by omega) hgl (by decide) (by decide), ?_⟩
        have ef : ((n : Nat) : Int) / ((Nat.gcd n (part (i + 1)) : Nat) : Int) = ((n / Nat.gcd n (part (i + 1)) : Nat) : Int) := (Int.natCast_ediv _ _).symm
        have hf : n / Nat.gcd n (part (i + 1)) ≤ n := Nat.div_le_self _ _
        refine ⟨_, _, rfl, rfl, wide_mul (a := 14100) (b := 70) ?_ ?_ (by decide) (by decide) (by decide), ?_⟩
        · rw [Int.natAbs_natCast]
          exact cnt_lt' ln (by omega)
        · show (((n : Nat) : Int) / ((Nat.gcd n (part (i + 1)) : Nat) : Int)).natAbs < 2 ^ 70
          rw [ef, Int.natAbs_natCast]
          omega
        · refine ⟨rfl, some (.int (i : Nat)), ?_⟩
          show [some (V.int (size : Nat)), some (V.int (n : Nat)), some (V.int (((cnt n i : Nat) : Int) * (((n : Nat) : Int) / ((Nat.gcd n (part (i + 1)) : Nat) : Int)))), some (V.int ((part (i + 1) : Nat) : Int)), some (V.int (i : Nat))] = _
          rw [ef, ← Int.natCast_mul]
          rfl
    · rintro σ H2 ⟨rfl, y4, rfl⟩
      exact ⟨_, rfl, q _ (same_upd np)⟩
theorem ok_all (h : Has K mg "count_all" sAll ["size", "base"]) (a : Ok P w K mg base 3 "check_between" ["value", "low", "high"] spCkBetween) (b : Ok P w K mg base 3 "check_parted" ["base"] spCkParted) (l : Ok P w K mg base 2 "lcm" ["one", "other"] spLcm) (g : Ok P w K mg base 1 "gcd" ["one", "other"] spGcd)
    (B : Bl mg) (m : ∃ t, mg "MOST_SIZE" = some (.int 200 t)) : Ok P w K mg base 4 "count_all" ["size", "base"] spAll := by
  obtain ⟨f, fd, F, hm, hb⟩ := h
  exact ⟨f, fd, hm, F.kp, hb, fn_all F a b l g B m⟩
/-- a def called by names alone -/
def OkN (P : Program) (w : World) (K : PySem.W.Frag) (mg : Str → Option Value) (base : Heap) (k : Nat) (x : Str) (ps ks : List Str) (g : List Value → List Value → List Value) (gV : List V → List V → List V) (sp : Sp) : Prop :=
  ∃ (f : Addr) (fd : FuncData), mg x = some (.ref f) ∧ PySem.W.keepIn K (.ref f) = true ∧ KBn K fd ps 0 ks g gV ∧ FnOk P w K mg base CX0 k f fd ps sp
/-- two values the other way round -/
def turned {α : Type} (_ ws : List α) : List α := ws.reverse
theorem okN_all (h : Has K mg "count_all" sAll ["size", "base"]) (a : Ok P w K mg base 3 "check_between" ["value", "low", "high"] spCkBetween) (b : Ok P w K mg base 3 "check_parted" ["base"] spCkParted) (l : Ok P w K mg base 2 "lcm" ["one", "other"] spLcm) (g : Ok P w K mg base 1 "gcd" ["one", "other"] spGcd)
    (B : Bl mg) (m : ∃ t, mg "MOST_SIZE" = some (.int 200 t)) : OkN P w K mg base 4 "count_all" ["size", "base"] ["base", "size"] turned turned spAll := by
  obtain ⟨f, fd, F, hm, hb⟩ := h
  refine ⟨f, fd, hm, F.kp, ⟨fun s us ws _ h1 h2 => ?_, fun _ r => r.reverse⟩, fn_all F a b l g B m⟩
  obtain ⟨_, _, kV, doc, pm, an, cdv, ct, _, rfl, _, _⟩ := F.ex
  exact .of_eq (match us, ws, h1, h2 with | [], [_, _], _, _ => rfl)
end
end K38

namespace K38
open PySem PySem.Spec PyProof.Rows L2
theorem cut_map (ns : List Int) (lo hi : Option Int) : ∃ ms : List Int, cutV (ns.map V.int) lo hi = ms.map V.int := by
  unfold cutV
  refine ⟨(ns.drop (HT.sIx (ns.map V.int).length 0 lo)).take (HT.sIx (ns.map V.int).length (ns.map V.int).length hi - HT.sIx (ns.map V.int).length 0 lo), ?_⟩
  rw [List.map_take]
  rw [List.map_drop]
/-- a jar of three numbers stands at J -/
def Jar (H : Hp) (J : Addr) : Prop := ∃ a b c : Int, H J = some (.lst [.int a, .int b, .int c])
/-- all but J is as it was -/
def SameB (J : Addr) (H H' : Hp) : Prop := ∀ b o, H b = some o → b ≠ J → H' b = some o
theorem SameB.trans {J : Addr} {H H1 H2 : Hp} (a : SameB J H H1) (b : SameB J H1 H2) : SameB J H H2 := fun c o h n => b c o (a c o h n) n
theorem Same.b {H H' : Hp} (J : Addr) (a : Same H H') : SameB J H H' := fun c o h _ => a c o h
theorem sameB_upd {J : Addr} {H : Hp} {o : HO} : SameB J H (upd H J o) := fun b u e n => by
  rw [upd_ne n]
  exact e
theorem Jar.same {H H' : Hp} {J : Addr} (h : Jar H J) (s : Same H H') : Jar H' J := by
  obtain ⟨a, b, c, e⟩ := h
  exact ⟨a, b, c, s _ _ e⟩
section
variable {P : Program} {w : World} {K : PySem.W.Frag} {mg : Str → Option Value} {base : Heap}
/-! ### the law's cell and jar -/
theorem scCell : FnScope ["_law_cells", "_law_spot", "_law_mixed", "_law_number"] ["_law_cells", "_law_spot"] (defScope sCell) := ⟨rfl, rfl, rfl, by decide +kernel, rfl, by decide +kernel, by decide +kernel⟩
def spCell (K : PySem.W.Frag) : Sp := fun vs H Q _ => ∃ (C : Addr) (k : Nat) (ns : List Int), vs = [.ref C, .int (k : Nat)] ∧ SqL K H C (ns.map V.int) ∧ ∀ (H' : Hp) (z : Int), Same H H' → Q (.int z) H'
theorem ok_cell (h : Has K mg "_law_cell" sCell ["_law_cells", "_law_spot"]) (B : Bl mg) : Ok P w K mg base 1 "_law_cell" ["_law_cells", "_law_spot"] (spCell K) := by
  refine Ok.mk h scCell (fun vs H Q E h => ?_) (fun f cdv A outer s H vs Q E hr h => ?_)
  · obtain ⟨C, k, ns, rfl, _⟩ := h
    rfl
  · obtain ⟨C, k, ns, rfl, hC, q⟩ := h
    refine ⟨_, pss_cons (ps_if (pt_cmpR op_lt (pv 1) (pe_callB call_len_seq (by rfl) B.len (by decide +kernel) (pa_cons (pv 0) pa_nil)) (nomark _))
        (pss_one (ps_ret (pe_callTy call_int1 (by rfl) B.int (by decide +kernel) (pa_cons (pe_ix ix_list (pv 0) (pv 1) (fun _ _ => rfl)) pa_nil)))) pss_nil)
      (pss_cons (ps_set (i := 2) scCell.nd rfl (.inl rfl) (pe_op op_add (pe_op op_mul pe_int (pv 1)) pe_int))
      (pss_cons (ps_for PassesOwn.never rfl (pi_list (pe_slice sl_list (pv 0) po_none (po_some pe_int))) (pg_name (i := 3) scCell.nd rfl (.inl rfl))
        (pss_one (ps_set (i := 2) scCell.nd rfl (.inl rfl) (pe_op op_mod (pe_callTy call_int1 (by rfl) B.int (by decide +kernel) (pa_cons (pe_op op_add (pe_op op_add (pe_op op_mul (pv 2) pe_int) (pv 3)) pe_int) pa_nil)) pe_int))))
      (pss_one (ps_ret (pv 2))))), ?_⟩
    refine ⟨_, rfl, _, rfl, C, _, rfl, .inl hC, _, _, rfl, rfl, _, rfl, ite2 (fun hk => ?_) (fun hk => ?_)⟩
    · have hk' : ((k : Nat) : Int) < ((ns.map V.int).length : Nat) := of_decide_eq_true hk
      rw [List.length_map] at hk'
      have hk2 : k < ns.length := by omega
      refine ⟨_, rfl, _, rfl, C, _, _, .int ns[k], rfl, rfl, hC, atI_nat (by rw [List.getElem?_map, List.getElem?_eq_getElem hk2]; rfl), .inl ⟨_, rfl, ?_⟩⟩
      exact q H _ (Same.refl H)
    · refine ⟨_, rfl, _, _, rfl, rfl, .inl ⟨by decide, by decide⟩, _, _, rfl, rfl, ?_⟩
      refine ⟨_, rfl, _, rfl, C, _, rfl, hC, fun p np => ?_⟩
      obtain ⟨ms, em⟩ := cut_map ns none (some 4)
      rw [em]
      refine ⟨p, rfl, ⟨_, .inl (.inl upd_same)⟩, for_list (K := K) (a := p) (xs := ms.map V.int) (fun i σ H2 => H2 = upd H p (.lst (ms.map V.int)) ∧ ∃ (z : Int) (y3 : Option V), σ = [some (.ref C), some (.int (k : Nat)), some (.int z), y3]) ⟨rfl, _, none, rfl⟩ ?_ ?_ ?_⟩
      · rintro i σ H2 _ ⟨rfl, _⟩
        exact .inl (.inl upd_same)
      · rintro i x σ H2 hx ⟨rfl, z, y3, rfl⟩
        rw [List.getElem?_map] at hx
        obtain ⟨m, _, rfl⟩ := Option.map_eq_some_iff.mp hx
        exact ⟨_, rfl, _, _, rfl, rfl, .inr ⟨by decide, by decide⟩, _, rfl, _, _, rfl, rfl, _, _, rfl, rfl, .inl ⟨_, rfl, _, _, rfl, rfl, by show (0 : Int) < 2147483587; decide, rfl, _, _, rfl⟩⟩
      · rintro σ H2 ⟨rfl, z, y3, rfl⟩
        exact ⟨_, rfl, q _ z (same_upd np)⟩
theorem scJar : FnScope ["_law_cells", "_law_spot", "_law_cell_here"] ["_law_cells", "_law_spot"] (defScope sJar) := ⟨rfl, rfl, rfl, by decide +kernel, rfl, by decide +kernel, by decide +kernel⟩
def spJar (K : PySem.W.Frag) : Sp := fun vs H Q _ => ∃ (C : Addr) (k : Nat) (ns : List Int), vs = [.ref C, .int (k : Nat)] ∧ SqL K H C (ns.map V.int) ∧ ∀ (H' : Hp) (p : Addr), Same H H' → H p = none → Jar H' p → Q (.ref p) H'
theorem ok_jar (h : Has K mg "_law_jar" sJar ["_law_cells", "_law_spot"]) (c : Ok P w K mg base 1 "_law_cell" ["_law_cells", "_law_spot"] (spCell K)) (B : Bl mg) : Ok P w K mg base 2 "_law_jar" ["_law_cells", "_law_spot"] (spJar K) := by
  refine Ok.mk h scJar (fun vs H Q E h => ?_) (fun f cdv A outer s H vs Q E hr h => ?_)
  · obtain ⟨C, k, ns, rfl, _⟩ := h
    rfl
  · obtain ⟨C, k, ns, rfl, hC, q⟩ := h
    refine ⟨_, pss_cons (ps_set (i := 2) scJar.nd rfl (.inl rfl) (pe_callB call_abs (by rfl) B.abs (by decide +kernel) (pa_cons (pcall c hr (pa_cons (pv 0) (pa_cons (pv 1) pa_nil))) pa_nil)))
      (pss_one (ps_ret (pe_lst (pa_cons (pv 2) (pa_cons (pe_op op_mod (pe_callTy call_int1 (by rfl) B.int (by decide +kernel) (pa_cons (pe_op op_add (pv 2) (pe_op op_mul pe_int (pv 1))) pa_nil)) pe_int) (pa_cons pe_int pa_nil)))))), ?_⟩
    refine ⟨_, rfl, _, rfl, C, k, ns, rfl, hC, fun H1 z s1 => ⟨z, rfl, ?_⟩⟩
    refine ⟨_, rfl, _, rfl, _, rfl, _, _, rfl, rfl, .inl ⟨by decide, by decide⟩, _, _, rfl, rfl, .inl ⟨_, rfl, _, _, rfl, rfl, by show (0 : Int) < 2147483587; decide, by show 3 ≤ sizeLine; decide, fun p np => ?_⟩⟩
    exact q _ p (s1.trans (same_upd np)) (s1.free np) ⟨_, _, _, upd_same⟩
/-! ### draws -/
theorem scDig : FnScope ["_law_jar_here", "_law_many", "_law_mixed", "_law_digit"] ["_law_jar_here", "_law_many"] (defScope sDig) := ⟨rfl, rfl, rfl, by decide +kernel, rfl, by decide +kernel, by decide +kernel⟩
def spDig : Sp := fun vs H Q _ => ∃ (J : Addr) (m : Nat), vs = [.ref J, .int (m : Nat)] ∧ Jar H J ∧ 0 < m ∧ m < 1073741824 ∧ ∀ (H' : Hp) (d : Nat), SameB J H H' → Jar H' J → d < m → Q (.int (d : Nat)) H'
theorem ok_dig (h : Has K mg "_law_dig" sDig ["_law_jar_here", "_law_many"]) (B : Bl mg) : Ok P w K mg base 1 "_law_dig" ["_law_jar_here", "_law_many"] spDig := by
  refine Ok.mk h scDig (fun vs H Q E h => ?_) (fun f cdv A outer s H vs Q E hr h => ?_)
  · obtain ⟨J, m, rfl, _⟩ := h
    rfl
  · obtain ⟨J, m, rfl, ⟨a, b, c, hJ⟩, hm, lm, q⟩ := h
    refine ⟨_, pss_cons (ps_asg (pe_op op_add (pe_ix ix_list (pv 0) pe_int (fun _ _ => rfl)) pe_int) (pg_sub (pv 0) pe_int set_list))
      (pss_cons (ps_set (i := 2) scDig.nd rfl (.inl rfl) (pe_callTy call_int1 (by rfl) B.int (by decide +kernel) (pa_cons (pe_ix ix_list (pv 0) pe_int (fun _ _ => rfl)) pa_nil)))
      (pss_cons (ps_asg (pe_op op_mod (pe_callTy call_int1 (by rfl) B.int (by decide +kernel) (pa_cons (pe_op op_add (pe_op op_add (pe_op op_mul (pv 2) (pe_op op_add (pe_op op_mod (pe_callTy call_int1 (by rfl) B.int (by decide +kernel) (pa_cons (pv 2) pa_nil)) pe_int) pe_int))
          (pe_op op_mul (pe_ix ix_list (pv 0) pe_int (fun _ _ => rfl)) pe_int)) pe_int) pa_nil)) pe_int) (pg_sub (pv 0) pe_int set_list))
      (pss_cons (ps_if (pt_cmpR op_gt (pe_ix ix_list (pv 0) pe_int (fun _ _ => rfl)) pe_int (nomark _))
        (pss_cons (ps_asg (pe_callB call_divmodW (by rfl) B.divmod (by decide +kernel) (pa_cons (pe_ix ix_list (pv 0) pe_int (fun _ _ => rfl)) (pa_cons (pv 1) pa_nil))) (pg_tup rfl (pgs_cons (pg_sub (pv 0) pe_int set_list) (pgs_cons (pg_name (i := 3) scDig.nd rfl (.inl rfl)) pgs_nil))))
        (pss_one (ps_ret (pv 3)))) pss_nil)
      (pss_one (ps_ret (pe_op op_mod (pe_callTy call_int1 (by rfl) B.int (by decide +kernel) (pa_cons (pe_op op_fdiv (pe_ix ix_list (pv 0) pe_int (fun _ _ => rfl)) pe_int) pa_nil)) (pv 1))))))), ?_⟩
    have hm0 : (0 : Int) < ((m : Nat) : Int) := by omega
    -- jar[2] = jar[2] + 1
    refine ⟨_, rfl, J, _, 2, .int c, rfl, rfl, .inl (.inl hJ), rfl, _, _, rfl, rfl, _, rfl, J, _, 2, 2, rfl, rfl, hJ, rfl, ?_⟩
    have b1 : SameB J H (upd H J (.lst [.int a, .int b, .int (c + 1)])) := sameB_upd
    have j1 : (upd H J (.lst [.int a, .int b, .int (c + 1)])) J = some (.lst [.int a, .int b, .int (c + 1)]) := upd_same
    refine ⟨_, rfl, J, _, 1, .int b, rfl, rfl, .inl (.inl j1), rfl, .inl ⟨_, rfl, ?_⟩⟩
    -- jar[1] = ..
    have r0 := Int.emod_nonneg b (show (29989 : Int) ≠ 0 by decide)
    have r1 := Int.emod_lt_of_pos b (show (0 : Int) < 29989 by decide)
    refine ⟨_, rfl, _, rfl, .inl ⟨_, rfl, _, _, rfl, rfl, by show (0 : Int) < 29989; decide, _, _, rfl, rfl, _, _, rfl, rfl, .inr ⟨by omega, by omega⟩, ?_⟩⟩
    refine ⟨_, rfl, J, _, 2, .int (c + 1), rfl, rfl, .inl (.inl j1), rfl, _, _, rfl, rfl, .inr ⟨by decide, by decide⟩, _, _, rfl, rfl, _, _, rfl, rfl, .inl ⟨_, rfl, _, _, rfl, rfl, by show (0 : Int) < 2147483587; decide, ?_⟩⟩
    refine ⟨_, rfl, J, _, 1, 1, rfl, rfl, j1, rfl, ?_⟩
    rw [upd_upd]
    dsimp only [List.set]
    generalize (b * (b % 29989 + 40013) + (c + 1) * 65521 + 7) % 2147483587 = bb
    have b2 : SameB J H (upd H J (.lst [.int a, .int bb, .int (c + 1)])) := sameB_upd
    have j2 : (upd H J (.lst [.int a, .int bb, .int (c + 1)])) J = some (.lst [.int a, .int bb, .int (c + 1)]) := upd_same
    refine ⟨_, rfl, J, _, 0, .int a, rfl, rfl, .inl (.inl j2), rfl, _, _, rfl, rfl, _, rfl, ite2 (fun ha => ?_) (fun ha => ?_)⟩
    · refine ⟨_, rfl, J, _, 0, .int a, rfl, rfl, .inl (.inl j2), rfl, _, rfl, _, _, rfl, ⟨hm0, PyProof.noPylong_small (by rw [Int.natAbs_natCast]; exact lm)⟩, fun T nT => ?_⟩
      have sT := same_upd (o := .tup [.int (a / ((m : Nat) : Int)), .int (a % ((m : Nat) : Int))]) nT
      have m0 := Int.emod_nonneg a (show ((m : Nat) : Int) ≠ 0 by omega)
      have m1 := Int.emod_lt_of_pos a hm0
      obtain ⟨d, ed⟩ := Int.eq_ofNat_of_zero_le m0
      refine ⟨T, _, rfl, .inl (.inl upd_same), rfl, _, _, rfl, ⟨_, rfl, J, _, 0, 0, rfl, rfl, sT _ _ j2, rfl, _, _, rfl, rfl, ?_⟩⟩
      refine ⟨_, rfl, ?_⟩
      rw [ed] at sT ⊢
      refine q _ d (b2.trans ((Same.b J sT).trans sameB_upd)) ⟨_, _, _, upd_same⟩ (by omega)
    · have m0 := Int.emod_nonneg (bb / 128) (show ((m : Nat) : Int) ≠ 0 by omega)
      have m1 := Int.emod_lt_of_pos (bb / 128) hm0
      obtain ⟨d, ed⟩ := Int.eq_ofNat_of_zero_le m0
      refine ⟨_, rfl, J, _, 1, .int bb, rfl, rfl, .inl (.inl j2), rfl, _, _, rfl, rfl, ⟨by decide, by decide⟩, .inl ⟨_, rfl, _, rfl, _, _, rfl, rfl, hm0, ?_⟩⟩
      show Q (.int (bb / 128 % ((m : Nat) : Int))) _
      rw [ed]
      exact q _ d b2 ⟨_, _, _, j2⟩ (by omega)
end
end K38

namespace K38
open PySem PySem.Spec PyProof.Rows L2
section
variable {P : Program} {w : World} {K : PySem.W.Frag} {mg : Str → Option Value} {base : Heap}
theorem scTake : FnScope ["_law_jar_here", "_law_some"] ["_law_jar_here", "_law_some"] (defScope sTake) := ⟨rfl, rfl, rfl, by decide +kernel, rfl, by decide +kernel, by decide +kernel⟩
def spTake : Sp := fun vs H Q _ => ∃ (J S : Addr) (ns : List Nat), vs = [.ref J, .ref S] ∧ Jar H J ∧ H S = some (.lst (ncs ns)) ∧ S ≠ J ∧ 0 < ns.length ∧ ns.length < 1073741824 ∧ ∀ (H' : Hp) (z : Nat), SameB J H H' → Jar H' J → z ∈ ns → Q (.int (z : Nat)) H'
theorem ok_take (h : Has K mg "_law_take" sTake ["_law_jar_here", "_law_some"]) (d : Ok P w K mg base 1 "_law_dig" ["_law_jar_here", "_law_many"] spDig) (B : Bl mg) : Ok P w K mg base 2 "_law_take" ["_law_jar_here", "_law_some"] spTake := by
  refine Ok.mk h scTake (fun vs H Q E h => ?_) (fun f cdv A outer s H vs Q E hr h => ?_)
  · obtain ⟨J, S, ns, rfl, _⟩ := h
    rfl
  · obtain ⟨J, S, ns, rfl, hJ, hS, hne, h0, hl, q⟩ := h
    refine ⟨_, pss_one (ps_ret (pe_ix ix_list (pv 1) (pcall d hr (pa_cons (pv 0) (pa_cons (pe_callB call_len_seq (by rfl) B.len (by decide +kernel) (pa_cons (pv 1) pa_nil)) pa_nil))) (fun _ _ => rfl))), ?_⟩
    refine ⟨_, rfl, _, rfl, _, rfl, S, _, rfl, .inl (.inl (.inl hS)), J, ns.length, by rw [List.length_map]; rfl, hJ, h0, hl, fun H1 e b1 j1 he => ?_⟩
    refine ⟨S, _, _, .int (ns[e] : Nat), rfl, rfl, .inl (.inl (b1 _ _ hS hne)), atI_nat (by rw [List.getElem?_map, List.getElem?_eq_getElem he]; rfl), ?_⟩
    exact q H1 _ b1 j1 (List.getElem_mem he)
/-! ### the law's own gcd and lcm -/
theorem scLGcd : FnScope ["_law_a", "_law_b"] ["_law_a", "_law_b"] (defScope sLGcd) := ⟨rfl, rfl, rfl, by decide +kernel, rfl, by decide +kernel, by decide +kernel⟩
theorem ok_lgcd (h : Has K mg "_law_gcd" sLGcd ["_law_a", "_law_b"]) (B : Bl mg) : Ok P w K mg base 1 "_law_gcd" ["_law_a", "_law_b"] spGcd := by
  refine Ok.mk h scLGcd (fun vs H Q E h => ?_) (fun f cdv A outer s H vs Q E hr h => ?_)
  · obtain ⟨a, b, rfl, _⟩ := h
    rfl
  · obtain ⟨a, b, rfl, q⟩ := h
    refine ⟨_, pss_cons (ps_par (i := 0) (j := 1) rfl scLGcd.nd rfl rfl (by decide) rfl rfl (pa_cons (pe_callB call_abs (by rfl) B.abs (by decide +kernel) (pa_cons (pv 0) pa_nil)) (pa_cons (pe_callB call_abs (by rfl) B.abs (by decide +kernel) (pa_cons (pv 1) pa_nil)) pa_nil)) (by rfl))
      (pss_cons (ps_while PassesOwn.never (pt_cmpR op_gt (pv 1) pe_int (nomark _)) (pss_one (ps_par (i := 0) (j := 1) rfl scLGcd.nd rfl rfl (by decide) rfl rfl (pa_cons (pv 1) (pa_cons (pe_op op_mod (pe_callTy call_int1 (by rfl) B.int (by decide +kernel) (pa_cons (pv 0) pa_nil)) (pv 1)) pa_nil)) (by rfl))))
      (pss_one (ps_ret (pv 0)))), ?_⟩
    refine ⟨_, rfl, a, rfl, _, rfl, b, rfl, _, _, rfl, ?_⟩
    rw [abs_if, abs_if]
    refine ⟨fun n σ H' => H' = H ∧ ∃ m : Nat, σ = [some (.int (m : Nat)), some (.int (n : Nat))] ∧ Nat.gcd m n = Nat.gcd a.natAbs b.natAbs, ⟨b.natAbs, rfl, a.natAbs, rfl, rfl⟩, fun n σ H' hW => ?_⟩
    obtain ⟨rfl, m, rfl, e⟩ := hW
    refine ⟨_, rfl, _, _, rfl, rfl, _, rfl, ite2 (fun hn => ?_) (fun hn => ?_)⟩
    · have hn0 : (0 : Int) < (n : Int) := of_decide_eq_true hn
      refine ⟨fun σ' H2 => H2 = H' ∧ ∃ m' n' : Nat, n' < n ∧ σ' = [some (.int (m' : Nat)), some (.int (n' : Nat))] ∧ Nat.gcd m' n' = Nat.gcd a.natAbs b.natAbs, fun σ' H2 hN => ?_, ?_⟩
      · obtain ⟨rfl, m', n', hlt, rfl, e'⟩ := hN
        exact ⟨n', hlt, rfl, m', rfl, e'⟩
      · refine ⟨_, rfl, _, rfl, .inl ⟨_, rfl, _, rfl, _, _, rfl, rfl, hn0, _, _, rfl, rfl, n, m % n, Nat.mod_lt _ (by omega), ?_, ?_⟩⟩
        · rw [Int.natCast_emod]
          rfl
        · rw [gcd_turn]
          exact e
    · have hn0 : n = 0 := by
        have : ¬ (0 : Int) < (n : Int) := fun z => hn (decide_eq_true z)
        omega
      subst hn0
      rw [Nat.gcd_zero_right] at e
      subst e
      exact ⟨_, rfl, q⟩
theorem scLLcm : FnScope ["_law_a", "_law_b"] ["_law_a", "_law_b"] (defScope sLLcm) := ⟨rfl, rfl, rfl, by decide +kernel, rfl, by decide +kernel, by decide +kernel⟩
theorem ok_llcm (h : Has K mg "_law_lcm" sLLcm ["_law_a", "_law_b"]) (g : Ok P w K mg base 1 "_law_gcd" ["_law_a", "_law_b"] spGcd) : Ok P w K mg base 2 "_law_lcm" ["_law_a", "_law_b"] spLcm := by
  refine Ok.mk h scLLcm (fun vs H Q E h => ?_) (fun f cdv A outer s H vs Q E hr h => ?_)
  · obtain ⟨a, b, rfl, _⟩ := h
    rfl
  · obtain ⟨a, b, rfl, ha, hb, la, lb, q⟩ := h
    refine ⟨_, pss_one (ps_ret (pe_ifExp (PW.pt (pw_or (pt_cmpR op_eq (pv 0) pe_int (nomark _)) (pw_or1 (pt_cmpR op_eq (pv 1) pe_int (nomark _))))) pe_int
      (pe_op op_mulW (pe_op op_fdivW (pv 0) (pcall g hr (pa_cons (pv 0) (pa_cons (pv 1) pa_nil)))) (pv 1)))), ?_⟩
    have hg : 0 < Nat.gcd a b := Nat.gcd_pos_of_pos_left _ ha
    have hgl : Nat.gcd a b < 2 ^ 4000 := Nat.lt_of_le_of_lt (Nat.gcd_le_left _ ha) la
    refine ⟨_, rfl, rfl, _, rfl, iteN (vne (by omega)) ?_⟩
    refine ⟨_, rfl, rfl, _, rfl, ?_⟩
    rw [decide_eq_false (vne (show ((b : Nat) : Int) ≠ 0 by omega))]
    refine iteF ?_
    refine ⟨_, rfl, _, rfl, _, rfl, _, _, rfl, ?_⟩
    simp only [Int.natAbs_natCast]
    refine ⟨_, _, rfl, rfl, wide_div (b := 4000) (by omega) (by simpa using hgl) (by decide) (by decide), ?_⟩
    refine ⟨_, rfl, _, _, rfl, rfl, wide_mul (a := 4000) (b := 4000) ?_ ?_ (by decide) (by decide) (by decide), ?_⟩
    · rw [← Int.natCast_ediv, Int.natAbs_natCast]
      exact Nat.lt_of_le_of_lt (Nat.div_le_self _ _) la
    · rw [Int.natAbs_natCast]
      exact lb
    · show Q (V.int (((a : Nat) : Int) / ((Nat.gcd a b : Nat) : Int) * ((b : Nat) : Int))) H
      rw [lcm_way]
      exact q
end
/-! ### a call by names alone -/
/-- f(k = v, ..) by what the callers know -/
theorem pcallN {X : Cx} {k j : Nat} {x : Str} {ps ks : List Str} {sp : Sp} {p pos : Pos} {kws : List Keyword} {tk : TA} {g : List Value → List Value → List Value} {gV : List V → List V → List V} (h : OkN X.prog X.w X.K X.mg X.base k x ps ks g gV sp) (hr : Room j X.A)
    (hkw : PK X kws tk) (hg : Gl X x := by rfl) (hk : k ≤ j := by decide)
    (hdb : (x == ("__debug__" : Str)) = false := by decide) (hall : (backToKw pos (keywordEach kws X.env)).all (·.1.isSome) = true := by rfl)
    (hks : (backToKw pos (keywordEach kws X.env)).filterMap (·.1) = ks := by rfl) (hpl : ((backTo pos (starEach [] X.env)).any (·.1) || (backToKw pos (keywordEach kws X.env)).any (·.1.isNone)) = false := by rfl) : PE X (.Call (.Name x p) [] kws pos) (tCallN 0 ks.length sp gV E0 tNil tk) := by
  obtain ⟨f, fd, hm, hkp, B, F⟩ := h
  constructor
  intro pins s σ H Q I hw
  refine wpAny_Call_Name_kw (ld_glob I hg hm (?_ : _) hdb)
  refine PySem.W.callWith_KW0 (h₀ := X.base) I.ok.mod.kin hkp hall ?_ hpl
  refine thn (hkw.run pos pins s σ H _ I hw) fun ws s2 ⟨zs, H2, I2, rz, l1, l2, q2⟩ => ⟨I2.kIn, ?_⟩
  rw [hks]
  exact run_fnN (us := []) (vs := []) F (hr.mono hk) B pass0 I2 .nil rz rfl l2 q2
end K38

namespace K38
open PySem PySem.Spec PyProof.Rows L2
/-- at D a list of tuples, the i-th told by the i-th of l -/
def LstOf {α : Type} (φ : α → List V) (H : Hp) (D : Addr) (l : List α) : Prop :=
  ∃ ts : List Addr, ts.length = l.length ∧ H D = some (.lst (ts.map V.ref)) ∧ ∀ (j : Nat) (t : Addr) (a : α), ts[j]? = some t → l[j]? = some a → H t = some (.tup (φ a))
theorem LstOf.nil {α : Type} {φ : α → List V} {H : Hp} {D : Addr} (h : H D = some (.lst [])) : LstOf φ H D [] := ⟨[], rfl, h, fun j t a e => by simp at e⟩
theorem LstOf.keep {α : Type} {φ : α → List V} {H H' : Hp} {D : Addr} {l : List α} (h : LstOf φ H D l) (hD : ∀ xs, H D = some (.lst xs) → H' D = some (.lst xs)) (k : ∀ t xs, H t = some (.tup xs) → H' t = some (.tup xs)) : LstOf φ H' D l := by
  obtain ⟨ts, h1, h2, h3⟩ := h
  exact ⟨ts, h1, hD _ h2, fun j t a e1 e2 => k _ _ (h3 j t a e1 e2)⟩
theorem LstOf.same {α : Type} {φ : α → List V} {H H' : Hp} {D : Addr} {l : List α} (h : LstOf φ H D l) (s : Same H H') : LstOf φ H' D l := h.keep (fun _ e => s _ _ e) fun _ _ e => s _ _ e
/-- one more behind it: the new list is D's old one and T -/
theorem LstOf.snoc {α : Type} {φ : α → List V} {H H' : Hp} {D T : Addr} {l : List α} {a : α} {acc : List V} (h : LstOf φ H D l) (hacc : H D = some (.lst acc)) (hD : H' D = some (.lst (acc ++ [.ref T]))) (hT : H' T = some (.tup (φ a)))
    (k : ∀ t xs, H t = some (.tup xs) → H' t = some (.tup xs)) : LstOf φ H' D (l ++ [a]) := by
  obtain ⟨ts, h1, h2, h3⟩ := h
  have e : acc = ts.map V.ref := by
    rw [hacc] at h2
    injection h2 with h2
    injection h2
  subst e
  refine ⟨ts ++ [T], by rw [List.length_append, List.length_append, h1]; rfl, by rw [hD, List.map_append]; rfl, fun j t b e1 e2 => ?_⟩
  by_cases hj : j < ts.length
  · rw [List.getElem?_append_left hj] at e1
    rw [List.getElem?_append_left (by omega)] at e2
    exact k _ _ (h3 j t b e1 e2)
  · rw [List.getElem?_append_right (by omega)] at e1
    rw [List.getElem?_append_right (by omega), ← h1] at e2
    have hz : j - ts.length = 0 := by
      have := (List.getElem?_eq_some_iff.mp e1).1
      simp at this
      omega
    rw [hz] at e1 e2
    have et : T = t := Option.some.inj e1
    have eb : a = b := Option.some.inj e2
    subst et eb
    exact hT
/-- the list itself, and its length -/
theorem LstOf.at {α : Type} {φ : α → List V} {H : Hp} {D : Addr} {l : List α} (h : LstOf φ H D l) : ∃ acc : List V, H D = some (.lst acc) ∧ acc.length = l.length := by
  obtain ⟨ts, h1, h2, _⟩ := h
  exact ⟨_, h2, by rw [List.length_map, h1]⟩
theorem LstOf.get {α : Type} {φ : α → List V} {H : Hp} {D : Addr} {l : List α} {xs : List V} (h : LstOf φ H D l) (hx : H D = some (.lst xs)) {i : Nat} {x : V} (e : xs[i]? = some x) : ∃ t a, x = .ref t ∧ l[i]? = some a ∧ H t = some (.tup (φ a)) := by
  obtain ⟨ts, h1, h2, h3⟩ := h
  have e0 : xs = ts.map V.ref := by
    rw [hx] at h2
    injection h2 with h2
    injection h2
  subst e0
  rw [List.getElem?_map] at e
  obtain ⟨t, ht, rfl⟩ := Option.map_eq_some_iff.mp e
  have hi : i < l.length := by
    have := (List.getElem?_eq_some_iff.mp ht).1
    omega
  exact ⟨t, l[i], rfl, List.getElem?_eq_getElem hi, h3 i t _ ht (List.getElem?_eq_getElem hi)⟩
/-- a pair of numbers as a tuple -/
def prV (p : Nat × Nat) : List V := [.int (p.1 : Nat), .int (p.2 : Nat)]
theorem small {n : Nat} (h : n ≤ 1000000) : n < sizeLine := Nat.lt_of_le_of_lt h (by rw [sizeLine_eq]; decide)
/-- exts, the numbers below m only -/
def extsTo (n k : Nat) (s : List Nat) (m : Nat) : List (List Nat) := ((List.range m).filter fun r => (bad n k s r).isEmpty).map fun r => s ++ [r]
theorem extsTo_succ (n k : Nat) (s : List Nat) (m : Nat) : extsTo n k s (m + 1) = if (bad n k s m).isEmpty = true then extsTo n k s m ++ [s ++ [m]] else extsTo n k s m := by
  unfold extsTo
  rw [List.range_succ, List.filter_append, List.map_append]
  by_cases h : (bad n k s m).isEmpty = true
  · rw [if_pos h, List.filter_cons_of_pos (p := fun r => (bad n k s r).isEmpty) h]
    rfl
  · rw [if_neg h, List.filter_cons_of_neg (p := fun r => (bad n k s r).isEmpty) h, List.filter_nil, List.map_nil, List.append_nil]
theorem extsTo_len (n k : Nat) (s : List Nat) (m : Nat) : (extsTo n k s m).length ≤ m := by
  unfold extsTo
  rw [List.length_map]
  exact Nat.le_trans (List.length_filter_le _ _) (by rw [List.length_range]; exact Nat.le_refl _)
theorem take_succ_of {α : Type} {l : List α} {i : Nat} {a : α} (h : l[i]? = some a) : l.take (i + 1) = l.take i ++ [a] := by
  rw [List.take_add_one, h]
  rfl
theorem ncs_dp {K : PySem.W.Frag} {H : Hp} : ∀ l : List Nat, DpAll K H (ncs l) (l.map fun c => PyData.int (c : Nat))
  | [] => .nil
  | a :: l => .cons (.int _) (ncs_dp l)
theorem eqv_nil (l : List Nat) : PyData.eqv (.list (l.map fun c => PyData.int ((c : Nat) : Int))) (.list []) = l.isEmpty := by
  cases l <;> rfl
section
variable {P : Program} {w : World} {K : PySem.W.Frag} {mg : Str → Option Value} {base : Heap}
abbrev nMaps : List Str := ["_law_n", "_law_found", "_law_k", "_law_parts_here", "_law_later", "_law_some", "_law_r", "_law_j", "_law_pair", "_law_d"]
/-- what the three tests and targets ask -/
abbrev ttPair (K : PySem.W.Frag) : TT := tTest (tOp (rI0 fun i j => .bl (decide (j < i))) (tOp (rIxT K) (tVar 8) (tC (.int 1))) (tC (.int 1)))
abbrev ggPair (K : PySem.W.Frag) : TG := gTup K 2 (gCons (gName 7) (gCons (gName 9) gNil))
abbrev ttRest (K : PySem.W.Frag) : TT := tTest (tOp rNe (tOp (rI (fun _ j => 0 < j) fun i j => .int (i % j))
  (tCB (fun xs H Q => (∃ i, xs = [.int i] ∧ Q (.int i) H) ∨ ∃ k, xs = [.bl k] ∧ Q (.int (if k then 1 else 0)) H) (tCons (tOp (rI0 fun i j => .int (i - j)) (tOp (rIxT K) (tVar 5) (tVar 7)) (tVar 6)) tNil)) (tVar 9)) (tC (.int 0)))
theorem scMaps : FnScope nMaps ["_law_n"] (defScope sMaps) := ⟨rfl, rfl, rfl, by decide +kernel, rfl, by decide +kernel, by decide +kernel⟩
def spMaps : Sp := fun vs H Q _ => ∃ n : Nat, vs = [.int (n : Nat)] ∧ 0 < n ∧ n ≤ 6 ∧ ∀ (H' : Hp) (p : Addr) (xs : List V), Same H H' → H' p = some (.lst xs) → xs.length = (maps n n).length → Q (.ref p) H'
theorem ok_maps (h : Has K mg "_law_maps" sMaps ["_law_n"]) (g : Ok P w K mg base 1 "_law_gcd" ["_law_a", "_law_b"] spGcd) (B : Bl mg) : Ok P w K mg base 2 "_law_maps" ["_law_n"] spMaps := by
  refine Ok.mk h scMaps (fun vs H Q E h => ?_) (fun f cdv A outer s H vs Q E hr h => ?_)
  · obtain ⟨n, rfl, _⟩ := h
    rfl
  · obtain ⟨n, rfl, hn, h6, q⟩ := h
    refine ⟨_, pss_cons (ps_set (i := 1) scMaps.nd rfl (.inl rfl) (pe_lst (pa_cons (pe_tup pa_nil) pa_nil)))
      (pss_cons (ps_for PassesOwn.never rfl (pi_range1 (by rfl) B.range (pa_cons (pv 0) pa_nil)) (pg_name (i := 2) scMaps.nd rfl (.inr rfl))
        (pss_cons (ps_setLc (i := 3) (own := [("_law_j", 7)]) (g := gName 7) (tt := tYes) rfl scMaps.nd rfl rfl (sw_true rfl rfl rfl (by decide +kernel)) (pi_range1 (by rfl) B.range (pa_cons (pv 2) pa_nil)) (blkOk_by (N := nMaps) (sc := defScope sMaps) (by decide +kernel))
            (fun _ _ _ _ _ => pg_name (i := 7) scMaps.nd rfl (.inl rfl)) (fun _ _ _ _ _ => pts_nil) (fun _ _ _ _ _ => pe_tup (pa_cons (pv 7) (pa_cons (pcall g hr (pa_cons (pv 0) (pa_cons (pe_op op_sub (pv 2) (pv 7)) pa_nil))) pa_nil))))
        (pss_cons (ps_par (i := 3) (j := 4) rfl scMaps.nd rfl rfl (by decide) rfl rfl
            (pa_cons (pe_lc (own := [("_law_pair", 8)]) (g := gName 8) (tt := ttPair K) (te := tVar 8) rfl scMaps.nd (pi_list (pv 3)) (blkOk_by (N := nMaps) (sc := defScope sMaps) (by decide +kernel)) (fun _ _ _ _ _ => pg_name (i := 8) scMaps.nd rfl (.inl rfl))
                (fun _ _ _ _ _ => pts_one (pt_cmpR op_gt (pe_ix ix_tup (pv 8) pe_int (fun _ _ => rfl)) pe_int (nomark _))) (fun _ _ _ _ _ => pv 8))
              (pa_cons (pe_lst pa_nil) pa_nil)) (by rfl))
        (pss_cons (ps_for PassesOwn.never rfl (pi_list (pv 1)) (pg_name (i := 5) scMaps.nd rfl (.inr rfl))
          (pss_one (ps_for PassesOwn.never rfl (pi_range1 (by rfl) B.range (pa_cons (pv 0) pa_nil)) (pg_name (i := 6) scMaps.nd rfl (.inr rfl))
            (pss_one (ps_if (pt_cmpR (op_eqD hr.units) (pe_lc (own := [("_law_j", 7), ("_law_d", 9)]) (g := ggPair K) (tt := ttRest K) (te := tVar 7) rfl scMaps.nd (pi_list (pv 3)) (blkOk_by (N := nMaps) (sc := defScope sMaps) (by decide +kernel))
                  (fun _ _ _ _ _ => pg_tup rfl (pgs_cons (pg_name (i := 7) scMaps.nd rfl (.inl rfl)) (pgs_cons (pg_name (i := 9) scMaps.nd rfl (.inl rfl)) pgs_nil)))
                  (fun _ _ _ _ _ => pts_one (pt_cmpR op_ne (pe_op op_mod (pe_callTy call_int1 (by rfl) B.int (by decide +kernel) (pa_cons (pe_op op_sub (pe_ix ix_tup (pv 5) (pv 7) (fun _ _ => rfl)) (pv 6)) pa_nil)) (pv 9)) pe_int (nomark _))) (fun _ _ _ _ _ => pv 7)) (pe_lst pa_nil) (nomark _))
              (pss_one (ps_expr (pe_bm PySem.F.plainAttrs_list PySem.F.slot_list_append PySem.F.type_list_append mt_append (pv 4) (pa_cons (pe_op op_catA (pv 5) (pe_tup (pa_cons (pv 6) pa_nil))) pa_nil)))) pss_nil)))))
        (pss_one (ps_set (i := 1) scMaps.nd rfl (.inl rfl) (pv 4)))))))
      (pss_one (ps_ret (pv 1)))), ?_⟩
    -- found = [()]
    refine ⟨Nat.zero_le _, fun t0 n0 => ⟨by show 1 ≤ sizeLine; decide, fun F0 nF0 => ?_⟩⟩
    have s0 : Same H (upd (upd H t0 (.tup [])) F0 (.lst [.ref t0])) := (same_upd n0).trans (same_upd nF0)
    have l0 : LstOf ncs (upd (upd H t0 (.tup [])) F0 (.lst [.ref t0])) F0 (maps n 0) := by
      refine ⟨[t0], rfl, upd_same, fun j t a e1 e2 => ?_⟩
      cases j with
      | zero =>
        have et : t0 = t := Option.some.inj e1
        have ea : ([] : List Nat) = a := Option.some.inj e2
        subst et ea
        rw [upd_ne (ne_of_none upd_same nF0)]
        exact upd_same
      | succ j => simp at e1
    refine ⟨_, rfl, ((n : Nat) : Int), rfl, by omega, by omega, ?_⟩
    rw [Int.toNat_natCast]
    refine for_range (lo := 0) (n := n) (fun k σ H2 => ∃ (F : Addr) (y2 y3 y4 y5 y6 y7 y8 y9 : Option V), σ = [some (.int (n : Nat)), some (.ref F), y2, y3, y4, y5, y6, y7, y8, y9] ∧ Same H H2 ∧ LstOf ncs H2 F (maps n k))
      ⟨F0, none, none, none, none, none, none, none, none, rfl, s0, l0⟩ ?_ ?_
    · rintro k σ H2 hk ⟨F, y2, y3, y4, y5, y6, y7, y8, y9, rfl, sm, hF⟩
      simp only [Int.zero_add]
      -- the pairs
      refine ⟨_, rfl, ((k : Nat) : Int), rfl, by omega, by omega, ?_⟩
      rw [Int.toNat_natCast]
      intro D1 nD1
      refine lc_range (lo := 0) (n := k) (fun i H3 => Same H2 H3 ∧ LstOf prV H3 D1 ((prts0 n k).take i)) ⟨same_upd nD1, LstOf.nil upd_same⟩ ?_ ?_
      · rintro i H3 hi ⟨sm3, hD⟩
        simp only [Int.zero_add]
        refine ⟨rfl, ?_⟩
        refine ⟨_, rfl, _, rfl, _, rfl, _, rfl, _, _, rfl, rfl, _, _, rfl, by show 2 ≤ sizeLine; decide, fun T nT => ?_⟩
        have eg : Nat.gcd ((n : Nat) : Int).natAbs (((k : Nat) : Int) - ((i : Nat) : Int)).natAbs = Nat.gcd n (k - i) := by
          rw [Int.natAbs_natCast]
          congr 1
          omega
        rw [eg] at *
        obtain ⟨acc, hacc, hlen⟩ := hD.at
        have nDT : D1 ≠ T := ne_of_none hacc nT
        have lt : ((prts0 n k).take i).length ≤ i := List.length_take_le _ _
        refine ⟨acc, by rw [upd_ne nDT]; exact hacc, small (by omega), fun b o e => ?_, ?_⟩
        · rw [upd_ne (ne_of_none e nD1)]
          exact same_upd nT _ _ (sm3 _ _ e)
        · rw [take_succ_of (prts0_get hi)]
          refine hD.snoc hacc upd_same (by rw [upd_ne nDT.symm]; exact upd_same) fun t xs e => ?_
          rw [upd_ne (ne_of e hacc (by intro z; cases z))]
          exact same_upd nT _ _ e
      · rintro H3 ⟨sm3, hD1⟩
        rw [List.take_of_length_le (by rw [prts0_length]; exact Nat.le_refl _)] at hD1
        obtain ⟨ts1, hts1, len1⟩ := hD1.at
        rw [prts0_length] at len1
        -- those above 1
        refine ⟨_, rfl, D1, rfl, ⟨_, .inl (.inl hts1)⟩, fun D2 nD2 => ?_⟩
        refine lc_list (K := K) (a := D1) (xs := ts1) (fun i H4 => Same H3 H4 ∧ LstOf prV H4 D2 (((prts0 n k).take i).filter fun p => decide (1 < p.2))) ⟨same_upd nD2, LstOf.nil upd_same⟩ ?_ ?_ ?_
        · rintro i H4 _ ⟨sm4, _⟩
          exact .inl (.inl (sm4 _ _ hts1))
        · rintro i x H4 hx ⟨sm4, hD⟩
          obtain ⟨t, p, rfl, hp, ht⟩ := hD1.get hts1 hx
          have ht4 := sm4 _ _ ht
          have hi : i < k := by
            have := (List.getElem?_eq_some_iff.mp hx).1
            omega
          refine ⟨rfl, _, rfl, t, prV p, 1, .int (p.2 : Nat), rfl, rfl, .inl (.inl ht4), rfl, _, _, rfl, rfl, _, rfl, ite2 (fun h1 => ?_) (fun h1 => ?_)⟩
          · have h1' : decide (1 < p.2) = true := by
              have := of_decide_eq_true h1
              exact decide_eq_true (show 1 < p.2 by omega)
            obtain ⟨acc, hacc, hlen⟩ := hD.at
            have lt : (((prts0 n k).take i).filter fun p => decide (1 < p.2)).length ≤ i := Nat.le_trans (List.length_filter_le _ _) (List.length_take_le _ _)
            refine ⟨_, rfl, acc, hacc, small (by omega), fun b o e => ?_, ?_⟩
            · rw [upd_ne (ne_of_none e nD2)]
              exact sm4 _ _ e
            · rw [take_succ_of hp, List.filter_append, List.filter_cons_of_pos (p := fun p : Nat × Nat => decide (1 < p.2)) h1']
              refine hD.snoc hacc upd_same ?_ fun t xs e => ?_
              · rw [upd_ne (ne_of ht4 hacc (by intro z; cases z))]
                exact ht4
              · rw [upd_ne (ne_of e hacc (by intro z; cases z))]
                exact e
          · have h1' : ¬ decide (1 < p.2) = true := fun z => h1 (by
              have := of_decide_eq_true z
              exact decide_eq_true (by omega))
            refine ⟨sm4, ?_⟩
            rw [take_succ_of hp, List.filter_append, List.filter_cons_of_neg (p := fun p : Nat × Nat => decide (1 < p.2)) h1', List.filter_nil, List.append_nil]
            exact hD
        · rintro H4 ⟨sm4, hD2⟩
          rw [len1, List.take_of_length_le (by rw [prts0_length]; exact Nat.le_refl _)] at hD2
          replace hD2 : LstOf prV H4 D2 (prts n k) := hD2
          -- later = []
          refine ⟨Nat.zero_le _, fun E nE => ⟨_, _, rfl, ?_⟩⟩
          have sm5 : Same H4 (upd H4 E (.lst [])) := same_upd nE
          have smA : Same H (upd H4 E (.lst [])) := sm.trans (sm3.trans (sm4.trans sm5))
          have nE0 : H E = none := (sm.trans (sm3.trans sm4)).free nE
          have hF5 : LstOf ncs (upd H4 E (.lst [])) F (maps n k) := hF.same (sm3.trans (sm4.trans sm5))
          have hD5 : LstOf prV (upd H4 E (.lst [])) D2 (prts n k) := hD2.same sm5
          have hE5 : (upd H4 E (.lst [])) E = some (.lst []) := upd_same
          have nFE : F ≠ E := by
            obtain ⟨acc, hacc, _⟩ := (hF.same (sm3.trans sm4)).at
            exact ne_of_none hacc nE
          have nDE : D2 ≠ E := by
            obtain ⟨acc, hacc, _⟩ := hD2.at
            exact ne_of_none hacc nE
          generalize upd H4 E (.lst []) = H5 at sm5 smA hF5 hD5 hE5
          obtain ⟨fs, hfs, lfs⟩ := hF5.at
          obtain ⟨ds, hds, lds⟩ := hD5.at
          have lm := maps_len' (n := n) (k := k) h6 (by omega)
          -- for some in found
          refine ⟨_, rfl, F, rfl, ⟨_, .inl (.inl hfs)⟩, for_list (K := K) (a := F) (xs := fs)
            (fun i σ H6 => ∃ (z5 z6 z7 z8 z9 : Option V), σ = [some (.int (n : Nat)), some (.ref F), some (.int (k : Nat)), some (.ref D2), some (.ref E), z5, z6, z7, z8, z9] ∧ SameB E H5 H6 ∧ LstOf ncs H6 E (((maps n k).take i).flatMap (exts n k)))
            ⟨_, _, _, _, _, rfl, fun b o e _ => e, LstOf.nil hE5⟩ ?_ ?_ ?_⟩
          · rintro i σ H6 _ ⟨_, _, _, _, _, _, sb, _⟩
            exact .inl (.inl (sb _ _ hfs nFE))
          · rintro i x σ H6 hx ⟨z5, z6, z7, z8, z9, rfl, sb6, hE6⟩
            obtain ⟨t, s, rfl, hs, ht⟩ := hF5.get hfs hx
            have nTE : t ≠ E := ne_of ht hE5 (by intro z; cases z)
            have hi : i < (maps n k).length := (List.getElem?_eq_some_iff.mp hs).1
            have hsl : s.length = k := maps_item k s (List.mem_of_getElem? hs)
            -- for r in range(n)
            refine ⟨_, rfl, ((n : Nat) : Int), rfl, by omega, by omega, ?_⟩
            rw [Int.toNat_natCast]
            refine for_range (lo := 0) (n := n) (fun r σ H7 => ∃ (z6 z7 z8 z9 : Option V), σ = [some (.int (n : Nat)), some (.ref F), some (.int (k : Nat)), some (.ref D2), some (.ref E), some (.ref t), z6, z7, z8, z9] ∧ SameB E H5 H7 ∧
              LstOf ncs H7 E (((maps n k).take i).flatMap (exts n k) ++ extsTo n k s r)) ⟨_, _, _, _, rfl, sb6, ?_⟩ ?_ ?_
            · show LstOf ncs H6 E (_ ++ [])
              rw [List.append_nil]
              exact hE6
            · rintro r σ H7 hr' ⟨z6, z7, z8, z9, rfl, sb7, hE7⟩
              simp only [Int.zero_add]
              have ht7 := sb7 _ _ ht nTE
              have hds7 := sb7 _ _ hds nDE
              -- the pairs that refuse
              refine ⟨_, rfl, D2, rfl, ⟨_, .inl (.inl hds7)⟩, fun D3 nD3 => ?_⟩
              refine lc_list (K := K) (a := D2) (xs := ds) (fun j H8 => Same H7 H8 ∧ H8 D3 = some (.lst (ncs ((((prts n k).take j).filter (refuses s r)).map (·.1))))) ⟨same_upd nD3, upd_same⟩ ?_ ?_ ?_
              · rintro j H8 _ ⟨sm8, _⟩
                exact .inl (.inl (sm8 _ _ hds7))
              · rintro j x H8 hx8 ⟨sm8, h8⟩
                obtain ⟨t2, p, rfl, hp, ht2⟩ := hD5.get hds hx8
                have nT2E : t2 ≠ E := ne_of ht2 hE5 (by intro z; cases z)
                have ht28 := sm8 _ _ (sb7 _ _ ht2 nT2E)
                have ht8 := sm8 _ _ ht7
                obtain ⟨hp1, hp2⟩ := prts_lt p (List.mem_of_getElem? hp)
                have hj : j < (prts n k).length := (List.getElem?_eq_some_iff.mp hp).1
                have hget : (ncs s)[p.1]? = some (.int ((s.getD p.1 0 : Nat) : Int)) := by
                  have e1 : s[p.1]? = some (s.getD p.1 0) := by
                    rw [List.getD_eq_getElem?_getD, List.getElem?_eq_getElem (show p.1 < s.length by omega)]
                    rfl
                  rw [List.getElem?_map, e1]
                  rfl
                refine ⟨t2, prV p, rfl, .inl (.inl ht28), rfl, _, _, rfl, _, _, rfl, rfl, rfl, ?_⟩
                refine ⟨_, rfl, _, rfl, t, ncs s, ((p.1 : Nat) : Int), _, rfl, rfl, .inl (.inl ht8), atI_nat hget, _, rfl, _, _, rfl, rfl, .inl ⟨_, rfl, _, rfl, _, _, rfl, rfl, (show (0 : Int) < ((p.2 : Nat) : Int) by omega), rfl, _, rfl, ?_⟩⟩
                have er : (!decide (V.int ((((s.getD p.1 0 : Nat) : Int) - ((r : Nat) : Int)) % ((p.2 : Nat) : Int)) = V.int 0)) = refuses s r p := by
                  unfold refuses
                  congr 1
                  by_cases h0 : (((s.getD p.1 0 : Nat) : Int) - ((r : Nat) : Int)) % ((p.2 : Nat) : Int) = 0
                  · rw [decide_eq_true h0, decide_eq_true (congrArg V.int h0)]
                  · rw [decide_eq_false h0, decide_eq_false (vne h0)]
                show if (!decide (V.int ((((s.getD p.1 0 : Nat) : Int) - ((r : Nat) : Int)) % ((p.2 : Nat) : Int)) = V.int 0)) = true then _ else _
                rw [er]
                refine ite2 (fun hrf => ?_) (fun hrf => ?_)
                · refine ⟨_, rfl, _, h8, small ?_, fun b o e => ?_, ?_⟩
                  · rw [List.length_map, List.length_map]
                    have q1 : (((prts n k).take j).filter (refuses s r)).length ≤ j := Nat.le_trans (List.length_filter_le _ _) (List.length_take_le _ _)
                    have q2 : (prts n k).length ≤ k := Nat.le_trans (List.length_filter_le _ _) (Nat.le_of_eq (prts0_length n k))
                    omega
                  · rw [upd_ne (ne_of_none e nD3)]
                    exact sm8 _ _ e
                  · rw [upd_same, take_succ_of hp, List.filter_append, List.filter_cons_of_pos hrf, List.map_append]
                    unfold ncs
                    rw [List.map_append]
                    rfl
                · refine ⟨sm8, ?_⟩
                  rw [take_succ_of hp, List.filter_append, List.filter_cons_of_neg hrf, List.filter_nil, List.append_nil]
                  exact h8
              · rintro H8 ⟨sm8, h8⟩
                rw [lds, List.take_of_length_le (Nat.le_refl _)] at h8
                replace h8 : H8 D3 = some (.lst (ncs (bad n k s r))) := h8
                refine ⟨Nat.zero_le _, fun E2 nE2 => ?_⟩
                have sm9 : Same H8 (upd H8 E2 (.lst [])) := same_upd nE2
                refine ⟨_, .list [], .lst (.inl (.inl (sm9 _ _ h8))) (ncs_dp _), .lst (.inl (.inl upd_same)) .nil, shaped_lst (fun c => (c : Nat)) _, by decide +kernel, _, rfl, ?_⟩
                rw [eqv_nil]
                have smB : Same H7 (upd H8 E2 (.lst [])) := sm8.trans sm9
                generalize upd H8 E2 (.lst []) = H9 at smB
                have sb9 : SameB E H5 H9 := sb7.trans (Same.b E smB)
                have hE9 := hE7.same smB
                obtain ⟨acc, hacc, lacc⟩ := hE9.at
                have hb : (((maps n k).take i).flatMap (exts n k) ++ extsTo n k s r).length ≤ 1000000 := by
                  rw [List.length_append]
                  have q1 := flat_len (exts_len n k) ((maps n k).take i)
                  have q2 := extsTo_len n k s r
                  have q3 : ((maps n k).take i).length ≤ i := List.length_take_le _ _
                  have q4 : ((maps n k).take i).length * n ≤ 46656 * 6 := Nat.mul_le_mul (by omega) h6
                  omega
                refine ite2 (fun hbad => ?_) (fun hbad => ?_)
                · have ht9 := smB _ _ ht7
                  refine ⟨_, rfl, .inl ⟨rfl, _, .inl (.inl hacc)⟩, _, rfl, _, rfl, by show 1 ≤ sizeLine; decide, fun T nT => ?_⟩
                  have sT := same_upd (o := .tup [.int ((r : Nat) : Int)]) nT
                  have fin : ∀ (H10 : Hp) (p : Addr), Same H9 H10 → H10 p = some (.tup (ncs (s ++ [r]))) →
                      ∃ l xs y, V.ref E = .ref l ∧ [V.ref p] = [y] ∧ H10 l = some (.lst xs) ∧ xs.length < sizeLine ∧ (∃ (w6 w7 w8 w9 : Option V), [some (V.int (n : Nat)), some (V.ref F), some (V.int (k : Nat)), some (V.ref D2), some (V.ref E), some (V.ref t), some (V.int (r : Nat)), z7, z8, z9] = [some (.int (n : Nat)), some (.ref F), some (.int (k : Nat)), some (.ref D2), some (.ref E), some (.ref t), w6, w7, w8, w9] ∧ SameB E H5 (upd H10 l (.lst (xs ++ [y]))) ∧
                        LstOf ncs (upd H10 l (.lst (xs ++ [y]))) E (((maps n k).take i).flatMap (exts n k) ++ extsTo n k s (r + 1))) := by
                    intro H10 p s10 hp
                    have hacc10 := s10 _ _ hacc
                    have hpE : p ≠ E := ne_of hp hacc10 (by intro z; cases z)
                    refine ⟨E, acc, .ref p, rfl, rfl, hacc10, small (by omega), _, z7, z8, z9, rfl, (sb9.trans (Same.b E s10)).trans sameB_upd, ?_⟩
                    rw [extsTo_succ, if_pos hbad, ← List.append_assoc]
                    refine (hE9.same s10).snoc hacc10 upd_same (by rw [upd_ne hpE]; exact hp) fun t' xs e => ?_
                    rw [upd_ne (ne_of e hacc10 (by intro z; cases z))]
                    exact e
                  have eN : ncs (s ++ [r]) = ncs s ++ [.int ((r : Nat) : Int)] := by
                    unfold ncs
                    rw [List.map_append]
                    rfl
                  refine ⟨t, T, ncs s, _, rfl, rfl, .inl (.inl (sT _ _ ht9)), .inl (.inl upd_same), ?_, fun hz => ?_, fun _ hz => (List.cons_ne_nil _ _ hz).elim, fun _ _ p np => ?_⟩
                  · rw [List.length_map, hsl]
                    exact Nat.le_of_lt (small (by show k + 1 ≤ 1000000; omega))
                  · refine fin _ T sT ?_
                    rw [upd_same, eN, hz]
                    rfl
                  · exact fin _ p (sT.trans (same_upd np)) (by rw [upd_same, eN])
                · refine ⟨_, z7, z8, z9, rfl, sb9, ?_⟩
                  rw [extsTo_succ, if_neg hbad]
                  exact hE9
            · rintro σ H7 ⟨z6, z7, z8, z9, rfl, sb7, hE7⟩
              refine ⟨_, _, _, _, _, rfl, sb7, ?_⟩
              rw [take_succ_of hs, List.flatMap_append, List.flatMap_singleton]
              exact hE7
          · rintro σ H6 ⟨z5, z6, z7, z8, z9, rfl, sb6, hE6⟩
            rw [lfs, List.take_of_length_le (Nat.le_refl _)] at hE6
            refine ⟨_, rfl, E, _, _, _, _, _, _, _, _, rfl, fun b o e => ?_, hE6⟩
            exact sb6 _ _ (smA _ _ e) (ne_of_none e nE0)
    · rintro σ H2 ⟨F, y2, y3, y4, y5, y6, y7, y8, y9, rfl, sm, hF⟩
      obtain ⟨fs, hfs, lfs⟩ := hF.at
      exact ⟨_, rfl, q H2 F fs sm hfs lfs⟩
end
end K38

namespace K38
open PySem PySem.Spec PyProof.Rows L2
theorem v4 {a b c d : Int} {a' b' c' d' : Nat} (h1 : a = (a' : Int)) (h2 : b = (b' : Int)) (h3 : c = (c' : Int)) (h4 : d = (d' : Int)) : [V.int a, V.int b, V.int c, V.int d] = ncs [a', b', c', d'] := by
  subst h1 h2 h3 h4
  rfl
section
variable {P : Program} {w : World} {K : PySem.W.Frag} {mg : Str → Option Value} {base : Heap}
theorem scRight : FnScope ["_law_jar_here", "_law_n", "_law_size_here", "_law_due", "_law_part", "_law_k"] ["_law_jar_here"] (defScope sRight) := ⟨rfl, rfl, rfl, by decide +kernel, rfl, by decide +kernel, by decide +kernel⟩
def spRight : Sp := fun vs H Q _ => ∃ J : Addr, vs = [.ref J] ∧ Jar H J ∧ ∀ H' : Hp, SameB J H H' → Q (.bl true) H'
theorem ok_right (h : Has K mg "_law_right" sRight ["_law_jar_here"]) (tk : Ok P w K mg base 2 "_law_take" ["_law_jar_here", "_law_some"] spTake) (dg : Ok P w K mg base 1 "_law_dig" ["_law_jar_here", "_law_many"] spDig)
    (lg : Ok P w K mg base 1 "_law_gcd" ["_law_a", "_law_b"] spGcd) (ll : Ok P w K mg base 2 "_law_lcm" ["_law_a", "_law_b"] spLcm) (ca : Ok P w K mg base 4 "count_all" ["size", "base"] spAll) (cn : OkN P w K mg base 4 "count_all" ["size", "base"] ["base", "size"] turned turned spAll)
    (ct : Ok P w K mg base 7 "count_tables" ["facts", "places", "base"] spTables) (mp : Ok P w K mg base 2 "_law_maps" ["_law_n"] spMaps) (B : Bl mg) : Ok P w K mg base 8 "_law_right" ["_law_jar_here"] spRight := by
  refine Ok.mk h scRight (fun vs H Q E h => ?_) (fun f cdv A outer s H vs Q E hr h => ?_)
  · obtain ⟨J, rfl, _⟩ := h
    rfl
  · obtain ⟨J, rfl, hJ, q⟩ := h
    refine ⟨_, pss_cons (ps_for PassesOwn.never rfl
        (pi_list (pe_lst (pa_cons (pcall tk hr (pa_cons (pv 0) (pa_cons (pe_lst (pa_cons pe_int (pa_cons pe_int (pa_cons pe_int (pa_cons pe_int pa_nil))))) pa_nil)))
          (pa_cons (pe_op op_add pe_int (pcall dg hr (pa_cons (pv 0) (pa_cons (pe_op op_pow pe_int pe_int) pa_nil))))
          (pa_cons (pe_op op_mul (pe_op op_pow pe_int pe_int) (pe_op op_add pe_int (pcall dg hr (pa_cons (pv 0) (pa_cons pe_int pa_nil)))))
          (pa_cons pe_int pa_nil)))))) (pg_name (i := 1) scRight.nd rfl (.inl rfl))
        (pss_cons (ps_set (i := 2) scRight.nd rfl (.inl rfl) (pe_op op_addN pe_int (pcall tk hr (pa_cons (pv 0) (pa_cons (pe_lst (pa_cons (pcall dg hr (pa_cons (pv 0) (pa_cons pe_int pa_nil))) (pa_cons (pcall dg hr (pa_cons (pv 0) (pa_cons pe_int pa_nil))) (pa_cons pe_int pa_nil)))) pa_nil)))))
        (pss_cons (ps_asg (pe_tup (pa_cons pe_int (pa_cons pe_int pa_nil))) (pg_tup rfl (pgs_cons (pg_name (i := 3) scRight.nd rfl (.inl rfl)) (pgs_cons (pg_name (i := 4) scRight.nd rfl (.inl rfl)) pgs_nil))))
        (pss_cons (ps_for PassesOwn.never rfl (pi_range1 (by rfl) B.range (pa_cons (pv 2) pa_nil)) (pg_name (i := 5) scRight.nd rfl (.inl rfl))
          (pss_cons (ps_set (i := 4) scRight.nd rfl (.inl rfl) (pcall ll hr (pa_cons (pv 4) (pa_cons (pe_callB (call_max2 rfl) (by rfl) B.max (by decide +kernel) (pa_cons (pv 5) (pa_cons pe_int pa_nil))) pa_nil))))
          (pss_one (ps_set (i := 3) scRight.nd rfl (.inl rfl) (pe_op op_mulW (pv 3) (pe_op op_fdivW (pv 1) (pcall lg hr (pa_cons (pv 1) (pa_cons (pv 4) pa_nil)))))))))
        (pss_cons (ps_if (PW.pt (pw_or (pt_cmpR op_ne (pcall ca hr (pa_cons (pv 2) (pa_cons (pv 1) pa_nil))) (pv 3) (nomark _)) (pw_or1 (pt_cmpR op_ne (pcallN cn hr (pk_cons (pv 1) (pk_cons (pv 2) pk_nil))) (pv 3) (nomark _))))) pss_never pss_nil)
        (pss_one (ps_if (PW.pt (pw_and (pt_cmpR op_le (pv 2) pe_int (nomark _)) (pw_and1 (pt_cmpR op_ne (pcall ct hr (pa_cons (pe_tup pa_nil) (pa_cons (pe_tupRg rfl (by rfl) B.tuple (prg_1 (by rfl) B.range (pv 2))) (pa_cons (pv 1) pa_nil)))) (pv 3) (nomark _))))) pss_never pss_nil)))))))
      (pss_cons (ps_set (i := 1) scRight.nd rfl (.inl rfl) (pcall tk hr (pa_cons (pv 0) (pa_cons (pe_lst (pa_cons pe_int (pa_cons pe_int (pa_cons pe_int (pa_cons pe_int (pa_cons pe_int pa_nil)))))) pa_nil))))
      (pss_one (ps_ret (pe_cmpR op_eq (pcall ca hr (pa_cons (pv 1) (pa_cons (pv 1) pa_nil))) (pe_callB call_len_seq (by rfl) B.len (by decide +kernel) (pa_cons (pcall mp hr (pa_cons (pv 1) pa_nil)) pa_nil)) (nomark _))))), ?_⟩
    -- the four numbers
    refine ⟨_, rfl, by show 4 ≤ sizeLine; decide, fun S nS => ?_⟩
    have sS : Same H (upd H S (.lst [.int 2, .int 3, .int 4, .int 6])) := same_upd nS
    have nSJ : S ≠ J := by
      obtain ⟨a, b, c, e⟩ := hJ
      exact (ne_of_none e nS).symm
    refine ⟨J, S, [2, 3, 4, 6], rfl, hJ.same sS, upd_same, nSJ, by decide, by decide, fun H1 n1 b1 j1 hn1 => ?_⟩
    refine ⟨_, rfl, _, _, rfl, rfl, ⟨by decide, by decide, by decide⟩, J, 1000000, rfl, j1, by decide, by decide, fun H2 d2 b2 j2 hd2 => ?_⟩
    refine ⟨_, _, rfl, rfl, _, _, rfl, rfl, ⟨by decide, by decide, by decide⟩, _, rfl, J, 90, rfl, j2, by decide, by decide, fun H3 d3 b3 j3 hd3 => ?_⟩
    refine ⟨_, _, rfl, rfl, _, _, rfl, rfl, .inl ⟨by decide, by decide⟩, by show 4 ≤ sizeLine; decide, fun L nL => ?_⟩
    have eL : ([V.int ((n1 : Nat) : Int), V.int (1 + ((d2 : Nat) : Int)), V.int (10 ^ (18 : Int).toNat * (1 + ((d3 : Nat) : Int))), V.int 720720] : List V) = ncs [n1, 1 + d2, 1000000000000000000 * (1 + d3), 720720] :=
      v4 rfl (by omega) (by rw [show (10 : Int) ^ (18 : Int).toNat = 1000000000000000000 by decide]; omega) rfl
    have hn1' : n1 = 2 ∨ n1 = 3 ∨ n1 = 4 ∨ n1 = 6 := by simpa using hn1
    have hall : ∀ n ∈ [n1, 1 + d2, 1000000000000000000 * (1 + d3), 720720], 0 < n ∧ n < 2 ^ 70 := by
      intro n hn
      simp only [List.mem_cons, List.not_mem_nil, or_false] at hn
      rcases hn with rfl | rfl | rfl | rfl <;> omega
    have bA : SameB J H (upd H3 L (.lst (ncs [n1, 1 + d2, 1000000000000000000 * (1 + d3), 720720]))) :=
      ((((Same.b J sS).trans b1).trans b2).trans b3).trans (Same.b J (same_upd nL))
    have jA : Jar (upd H3 L (.lst (ncs [n1, 1 + d2, 1000000000000000000 * (1 + d3), 720720]))) J := j3.same (same_upd nL)
    have nLJ : L ≠ J := by
      obtain ⟨a, b, c, e⟩ := j3
      exact (ne_of_none e nL).symm
    clear bA jA
    obtain ⟨nums, enums⟩ : ∃ l, l = [n1, 1 + d2, 1000000000000000000 * (1 + d3), 720720] := ⟨_, rfl⟩
    rw [← enums] at eL hall
    refine ⟨L, rfl, ⟨_, .inl (.inl upd_same)⟩, for_list (K := K) (a := L) (xs := ncs nums) (fun i σ H5 => (∃ y1 y2 y3 y4 y5 : Option V, σ = [some (.ref J), y1, y2, y3, y4, y5]) ∧ SameB J H H5 ∧ Jar H5 J ∧ H5 L = some (.lst (ncs nums)))
      ⟨⟨_, _, _, _, _, rfl⟩, ((((Same.b J sS).trans b1).trans b2).trans b3).trans (Same.b J (same_upd nL)), j3.same (same_upd nL), upd_same.trans (congrArg (fun l => some (HO.lst l)) eL)⟩ ?_ ?_ ?_⟩
    · rintro i σ H5 _ ⟨_, _, _, e⟩
      exact .inl (.inl e)
    · rintro i x σ H5 hx ⟨⟨y1, y2, y3, y4, y5, rfl⟩, b5, j5, hL5⟩
      rw [List.getElem?_map] at hx
      obtain ⟨n, hn, rfl⟩ := Option.map_eq_some_iff.mp hx
      obtain ⟨n0, ln⟩ := hall n (List.mem_of_getElem? hn)
      -- the size
      refine ⟨_, rfl, _, rfl, J, 40, rfl, j5, by decide, by decide, fun H6 d6 b6 j6 hd6 => ?_⟩
      refine ⟨_, rfl, J, 200, rfl, j6, by decide, by decide, fun H7 d7 b7 j7 hd7 => ?_⟩
      refine ⟨by show 3 ≤ sizeLine; decide, fun S8 nS8 => ?_⟩
      have s8 := same_upd (o := .lst (ncs [d6, d7, 199])) nS8
      have nS8J : S8 ≠ J := by
        obtain ⟨a, b, c, e⟩ := j7
        exact (ne_of_none e nS8).symm
      refine ⟨J, S8, [d6, d7, 199], rfl, j7.same s8, upd_same, nS8J, by show 0 < 3; decide, by show 3 < 1073741824; decide, fun H9 sz b9 j9 hsz => ⟨1, sz, rfl, rfl, ?_⟩⟩
      have hsz' : sz < 200 := by
        simp only [List.mem_cons, List.not_mem_nil, or_false] at hsz
        omega
      have b59 : SameB J H5 H9 := (((b6.trans b7).trans (Same.b J s8)).trans b9)
      have bH9 : SameB J H H9 := b5.trans b59
      have hL9 := b59 _ _ hL5 nLJ
      have h0 : 0 < 1 + sz := by omega
      have h200 : 1 + sz ≤ 200 := by omega
      generalize 1 + sz = size at h0 h200 ⊢
      -- due, part = 1, 1
      refine ⟨by show 2 ≤ sizeLine; decide, fun T nT => ?_⟩
      have sT := same_upd (o := .tup [.int 1, .int 1]) nT
      refine ⟨T, _, rfl, .inl (.inl upd_same), rfl, _, _, rfl, _, _, rfl, rfl, ?_⟩
      have bHT := bH9.trans (Same.b J sT)
      have jT := j9.same sT
      have hLT := sT _ _ hL9
      generalize upd H9 T (.tup [.int 1, .int 1]) = HT at bHT jT hLT ⊢
      -- the product
      refine ⟨_, rfl, ((size : Nat) : Int), rfl, by omega, by omega, ?_⟩
      rw [Int.toNat_natCast]
      refine for_range (lo := 0) (n := size) (fun k σ H2 => H2 = HT ∧ ∃ y : Option V, σ = [some (.ref J), some (.int (n : Nat)), some (.int (size : Nat)), some (.int (cnt n k : Nat)), some (.int (part k : Nat)), y]) ⟨rfl, _, rfl⟩ ?_ ?_
      · rintro k σ H2 hk ⟨rfl, y, rfl⟩
        simp only [Int.zero_add]
        have up : (2 : Nat) ^ 2000 ≤ 2 ^ 4000 := Nat.pow_le_pow_right (by decide) (by decide)
        have hp := part_pos k
        have hp1 := part_pos (k + 1)
        have hl := part_lt' (k := k) (by omega)
        have hl1 := part_lt' (k := k + 1) (by omega)
        have hg : 0 < Nat.gcd n (part (k + 1)) := Nat.gcd_pos_of_pos_left _ n0
        have hgn : Nat.gcd n (part (k + 1)) ≤ n := Nat.gcd_le_left _ n0
        refine ⟨_, rfl, _, rfl, _, _, rfl, part k, max k 1, ?_, hp, by omega, Nat.lt_of_lt_of_le hl up, up255 (by omega), ?_⟩
        · rw [max_if]
          rfl
        · refine ⟨_, rfl, _, rfl, _, rfl, _, rfl, _, _, rfl, ?_⟩
          simp only [Int.natAbs_natCast]
          have hgl : ((Nat.gcd n (part (k + 1)) : Nat) : Int).natAbs < 2 ^ 70 := by rw [Int.natAbs_natCast]; omega
          refine ⟨_, _, rfl, rfl, wide_div (b := 70) (show (0 : Int) < ((Nat.gcd n (part (k + 1)) : Nat) : Int) by omega) hgl (by decide) (by decide), ?_⟩
          have ef : ((n : Nat) : Int) / ((Nat.gcd n (part (k + 1)) : Nat) : Int) = ((n / Nat.gcd n (part (k + 1)) : Nat) : Int) := (Int.natCast_ediv _ _).symm
          have hf : n / Nat.gcd n (part (k + 1)) ≤ n := Nat.div_le_self _ _
          refine ⟨_, _, rfl, rfl, wide_mul (a := 14100) (b := 70) ?_ ?_ (by decide) (by decide) (by decide), ?_⟩
          · rw [Int.natAbs_natCast]
            exact cnt_lt' ln (by omega)
          · show (((n : Nat) : Int) / ((Nat.gcd n (part (k + 1)) : Nat) : Int)).natAbs < 2 ^ 70
            rw [ef, Int.natAbs_natCast]
            omega
          · refine ⟨rfl, some (.int (k : Nat)), ?_⟩
            show [some (V.ref J), some (V.int (n : Nat)), some (V.int (size : Nat)), some (V.int (((cnt n k : Nat) : Int) * (((n : Nat) : Int) / ((Nat.gcd n (part (k + 1)) : Nat) : Int)))), some (V.int ((part (k + 1) : Nat) : Int)), some (V.int (k : Nat))] = _
            rw [ef, ← Int.natCast_mul]
            rfl
      · rintro σ H2 ⟨rfl, y, rfl⟩
        -- count_all, twice
        refine ⟨_, rfl, _, rfl, size, n, rfl, h0, h200, n0, ln, fun H10 s10 => ?_⟩
        refine ⟨_, rfl, rfl, _, rfl, ?_⟩
        rw [decide_eq_true rfl]
        refine iteF ?_
        refine ⟨_, rfl, _, rfl, rfl, rfl, size, n, rfl, h0, h200, n0, ln, fun H11 s11 => ?_⟩
        refine ⟨_, rfl, rfl, _, rfl, ?_⟩
        rw [decide_eq_true rfl]
        refine iteF ?_
        have s1 := s10.trans s11
        -- count_tables
        have last : ∀ H12 : Hp, Same H2 H12 → (∃ z1 z2 z3 z4 z5 : Option V, [some (V.ref J), some (.int (n : Nat)), some (.int (size : Nat)), some (.int (cnt n size : Nat)), some (.int (part size : Nat)), y] = [some (.ref J), z1, z2, z3, z4, z5]) ∧ SameB J H H12 ∧ Jar H12 J ∧ H12 L = some (.lst (ncs nums)) :=
          fun H12 s12 => ⟨⟨_, _, _, _, _, rfl⟩, bHT.trans (Same.b J s12), jT.same s12, s12 _ _ hLT⟩
        refine ⟨_, rfl, _, _, rfl, rfl, _, rfl, ite2 (fun h40 => ?_) (fun h40 => ?_)⟩
        · have h40' : ((size : Nat) : Int) ≤ 40 := of_decide_eq_true h40
          refine ⟨Nat.zero_le _, fun F nF => ⟨_, rfl, _, rfl, RgOk.of_le (by decide) (by omega) (by decide) (by omega), fun S nS2 => ⟨_, rfl, ?_⟩⟩⟩
          have sF := same_upd (o := .tup []) nF
          have sS2 := same_upd (o := .tup (rgV 0 ((size : Nat) : Int))) nS2
          refine ⟨F, S, size, n, rfl, sS2 _ _ upd_same, upd_same, h0, by omega, n0, ln, fun H12 s12 => ?_⟩
          refine ⟨_, rfl, rfl, _, rfl, ?_⟩
          rw [decide_eq_true rfl]
          refine iteF ?_
          exact last H12 (s1.trans (sF.trans (sS2.trans s12)))
        · exact last H11 s1
    · rintro σ H5 ⟨⟨y1, y2, y3, y4, y5, rfl⟩, b5, j5, hL5⟩
      refine ⟨_, rfl, by show 5 ≤ sizeLine; decide, fun S6 nS6 => ?_⟩
      have s6 := same_upd (o := .lst (ncs [2, 3, 4, 6, 6])) nS6
      have nS6J : S6 ≠ J := by
        obtain ⟨a, b, c, e⟩ := j5
        exact (ne_of_none e nS6).symm
      refine ⟨J, S6, [2, 3, 4, 6, 6], rfl, j5.same s6, upd_same, nS6J, by decide, by decide, fun H7 n b7 j7 hn => ?_⟩
      have hn' : n = 2 ∨ n = 3 ∨ n = 4 ∨ n = 6 := by
        simp only [List.mem_cons, List.not_mem_nil, or_false] at hn
        omega
      refine ⟨_, rfl, _, rfl, n, n, rfl, by omega, by omega, by omega, by omega, fun H8 s8 => ?_⟩
      refine ⟨_, rfl, n, rfl, by omega, by omega, fun H9 p xs s9 hp hxs => ?_⟩
      refine ⟨p, xs, rfl, .inl (.inl (.inl hp)), rfl, ?_⟩
      have e : xs.length = cnt n n := hxs.trans (maps_all hn')
      rw [e]
      show Q (.bl (decide (V.int ((cnt n n : Nat) : Int) = V.int ((cnt n n : Nat) : Int)))) H9
      rw [decide_eq_true rfl]
      exact q H9 ((((b5.trans (Same.b J s6)).trans b7).trans (Same.b J s8)).trans (Same.b J s9))
end
end K38

namespace K38
open PySem PySem.Spec PyProof.Rows L2
theorem reps_snoc (i : Nat) : List.replicate i (V.bl true) ++ [V.bl true] = List.replicate (i + 1) (V.bl true) := by
  rw [List.replicate_succ']
theorem reps_map (i : Nat) : (List.replicate i true).map V.bl = List.replicate i (V.bl true) := by
  rw [List.map_replicate]
theorem reps_all : ∀ i : Nat, (List.replicate i true).all id = true
  | 0 => rfl
  | i + 1 => by
    rw [List.replicate_succ, List.all_cons, reps_all i]
    rfl
section
variable {P : Program} {w : World} {K : PySem.W.Frag} {mg : Str → Option Value} {base : Heap}
abbrev nLaw : List Str := ["_law_cells", "_law_k"]
theorem scLaw : FnScope nLaw ["_law_cells"] (defScope sLaw) := ⟨rfl, rfl, rfl, by decide +kernel, rfl, by decide +kernel, by decide +kernel⟩
def spLaw (K : PySem.W.Frag) : Sp := fun vs H Q _ => ∃ (C : Addr) (ns : List Int), vs = [.ref C] ∧ SqL K H C (ns.map V.int) ∧ ∀ H' : Hp, Q (.bl true) H'
theorem fn_law {f : Addr} {fd : FuncData} (F : Fun K "law" "law" sLaw f fd) (jr : Ok P w K mg base 2 "_law_jar" ["_law_cells", "_law_spot"] (spJar K)) (rt : Ok P w K mg base 8 "_law_right" ["_law_jar_here"] spRight) (B : Bl mg) : FnOk P w K mg base CX0 9 f fd ["_law_cells"] (spLaw K) := by
  refine F.ok scLaw (fun vs H Q E h => ?_) (fun cdv A outer s H vs Q E hr h => ?_)
  · obtain ⟨C, ns, rfl, _⟩ := h
    rfl
  · obtain ⟨C, ns, rfl, hC, q⟩ := h
    refine ⟨_, pss_one (ps_ret (pe_callB (cr_all rfl) (by rfl) B.all (by decide +kernel) (pa_cons (pe_lc (own := [("_law_k", 1)]) (g := gName 1) (tt := tYes) rfl scLaw.nd
      (pi_range1 (by rfl) B.range (pa_cons (pe_callB (call_max2 rfl) (by rfl) B.max (by decide +kernel) (pa_cons pe_int (pa_cons (pe_callB (call_min2 rfl) (by rfl) B.min (by decide +kernel)
        (pa_cons (pe_callB call_len_seq (by rfl) B.len (by decide +kernel) (pa_cons (pv 0) pa_nil)) (pa_cons pe_int pa_nil))) pa_nil))) pa_nil))
      (blkOk_by (N := nLaw) (sc := defScope sLaw) (by decide +kernel)) (fun _ _ _ _ _ => pg_name (i := 1) scLaw.nd rfl (.inl rfl)) (fun _ _ _ _ _ => pts_nil)
      (fun _ _ _ _ _ => pcall rt hr (pa_cons (pcall jr hr (pa_cons (pv 0) (pa_cons (pv 1) pa_nil))) pa_nil))) pa_nil))), ?_⟩
    refine ⟨_, rfl, C, _, rfl, .inl hC, _, _, rfl, _, _, rfl, ?_⟩
    have hj : ∀ l : Nat, ∃ n : Nat, n ≤ 4 ∧ (if (if (4 : Int) < ((l : Nat) : Int) then (4 : Int) else ((l : Nat) : Int)) > 2 then (if (4 : Int) < ((l : Nat) : Int) then (4 : Int) else ((l : Nat) : Int)) else 2) = ((n : Nat) : Int) := by
      intro l
      refine ⟨max 2 (min l 4), by omega, ?_⟩
      split <;> split <;> omega
    obtain ⟨n, hn, en⟩ := hj (ns.map V.int).length
    rw [en]
    refine ⟨((n : Nat) : Int), rfl, by omega, by omega, ?_⟩
    rw [Int.toNat_natCast]
    intro D nD
    refine lc_range (lo := 0) (n := n) (fun i H2 => Same H H2 ∧ H2 D = some (.lst (List.replicate i (.bl true)))) ⟨same_upd nD, upd_same⟩ ?_ ?_
    · rintro i H2 hi ⟨sm, hD⟩
      simp only [Int.zero_add]
      refine ⟨rfl, ?_⟩
      refine ⟨_, rfl, _, rfl, C, i, ns, rfl, sm.seq hC, fun H3 J s3 nJ hJ => ?_⟩
      refine ⟨J, rfl, hJ, fun H4 b4 => ?_⟩
      have s4 : Same H2 H4 := fun b o e => b4 _ _ (s3 _ _ e) (ne_of_none e nJ)
      refine ⟨_, s4 _ _ hD, by rw [List.length_replicate]; exact small1000 (by omega), fun b o e => ?_, ?_⟩
      · rw [upd_ne (ne_of_none e nD)]
        exact s4 _ _ (sm _ _ e)
      · rw [upd_same, reps_snoc]
    · rintro H2 ⟨sm, hD⟩
      refine ⟨D, List.replicate n true, rfl, .inl (.inl (by rw [reps_map]; exact hD)), ?_⟩
      rw [reps_all]
      exact q H2
end
end K38

/-! k38: what the top has left, as the defs want it. -/
namespace K38
open PySem PySem.Spec PyProof.Rows L2
section
variable {w : World} {K : PySem.W.Frag} {mg : Str → Option Value} {h : Heap}
theorem has_of {x : Str} {st : Stmt} {ps : List Str} {f : Addr} {oc : Value} {od an : Option Addr} {osl : Array (Option Value)} {kV doc pm cdv ct : Value} (X : K.In h) (G : h.Ns mainGlobals mg) (a : PySem.W.nsIn K mainGlobals x = some (some (.ref f)))
    (l : K.lookup f = some ⟨oc, od, .func (PySem.W.fnOf x x (defArgs st) (defBody st) (defScope st) .none kV doc pm an cdv ct), osl⟩) (c : PySem.W.codeIn K cdv x = true) (k : PySem.W.keepIn K (.ref f) = true)
    (b : ∀ (kV doc pm : Value) (an : Option Addr) (cdv ct : Value) (us : List Value), us.length = ps.length → bindArgs (PySem.W.fnOf x x (defArgs st) (defBody st) (defScope st) .none kV doc pm an cdv ct) ⟨us, []⟩ = pure (ps.zip us)) : Has K mg x st ps :=
  ⟨f, _, fun_mk l c k, PySem.W.mg_of X G a, (fun_mk l c k).binds b⟩
theorem con_of {x : Str} {v : Value} {i : Int} (X : K.In h) (G : h.Ns mainGlobals mg) (a : PySem.W.nsIn K mainGlobals x = some (some v)) (e : ∃ t, v = .int i t) : ∃ t, mg x = some (.int i t) := by
  obtain ⟨t, rfl⟩ := e
  exact ⟨t, PySem.W.mg_of X G a⟩
theorem bind_sGcd (kV doc pm : Value) (an : Option Addr) (cdv ct : Value) (us : List Value) (hl : us.length = (["one", "other"] : List Str).length) : bindArgs (PySem.W.fnOf "gcd" "gcd" (defArgs sGcd) (defBody sGcd) (defScope sGcd) .none kV doc pm an cdv ct) ⟨us, []⟩ = pure ((["one", "other"] : List Str).zip us) :=
  match us, hl with | [_, _], _ => rfl
theorem bind_sLcm (kV doc pm : Value) (an : Option Addr) (cdv ct : Value) (us : List Value) (hl : us.length = (["one", "other"] : List Str).length) : bindArgs (PySem.W.fnOf "lcm" "lcm" (defArgs sLcm) (defBody sLcm) (defScope sLcm) .none kV doc pm an cdv ct) ⟨us, []⟩ = pure ((["one", "other"] : List Str).zip us) :=
  match us, hl with | [_, _], _ => rfl
theorem bind_sRestBy (kV doc pm : Value) (an : Option Addr) (cdv ct : Value) (us : List Value) (hl : us.length = (["number", "base"] : List Str).length) : bindArgs (PySem.W.fnOf "rest_by" "rest_by" (defArgs sRestBy) (defBody sRestBy) (defScope sRestBy) .none kV doc pm an cdv ct) ⟨us, []⟩ = pure ((["number", "base"] : List Str).zip us) :=
  match us, hl with | [_, _], _ => rfl
theorem bind_sInverse (kV doc pm : Value) (an : Option Addr) (cdv ct : Value) (us : List Value) (hl : us.length = (["number", "base"] : List Str).length) : bindArgs (PySem.W.fnOf "inverse" "inverse" (defArgs sInverse) (defBody sInverse) (defScope sInverse) .none kV doc pm an cdv ct) ⟨us, []⟩ = pure ((["number", "base"] : List Str).zip us) :=
  match us, hl with | [_, _], _ => rfl
theorem bind_sMet (kV doc pm : Value) (an : Option Addr) (cdv ct : Value) (us : List Value) (hl : us.length = (["one", "other"] : List Str).length) : bindArgs (PySem.W.fnOf "met" "met" (defArgs sMet) (defBody sMet) (defScope sMet) .none kV doc pm an cdv ct) ⟨us, []⟩ = pure ((["one", "other"] : List Str).zip us) :=
  match us, hl with | [_, _], _ => rfl
theorem bind_sIsInt (kV doc pm : Value) (an : Option Addr) (cdv ct : Value) (us : List Value) (hl : us.length = (["value"] : List Str).length) : bindArgs (PySem.W.fnOf "is_integer" "is_integer" (defArgs sIsInt) (defBody sIsInt) (defScope sIsInt) .none kV doc pm an cdv ct) ⟨us, []⟩ = pure ((["value"] : List Str).zip us) :=
  match us, hl with | [_], _ => rfl
theorem bind_sIsBetween (kV doc pm : Value) (an : Option Addr) (cdv ct : Value) (us : List Value) (hl : us.length = (["value", "low", "high"] : List Str).length) : bindArgs (PySem.W.fnOf "is_between" "is_between" (defArgs sIsBetween) (defBody sIsBetween) (defScope sIsBetween) .none kV doc pm an cdv ct) ⟨us, []⟩ = pure ((["value", "low", "high"] : List Str).zip us) :=
  match us, hl with | [_, _, _], _ => rfl
theorem bind_sIsBase (kV doc pm : Value) (an : Option Addr) (cdv ct : Value) (us : List Value) (hl : us.length = (["value"] : List Str).length) : bindArgs (PySem.W.fnOf "is_base" "is_base" (defArgs sIsBase) (defBody sIsBase) (defScope sIsBase) .none kV doc pm an cdv ct) ⟨us, []⟩ = pure ((["value"] : List Str).zip us) :=
  match us, hl with | [_], _ => rfl
theorem bind_sCkBetween (kV doc pm : Value) (an : Option Addr) (cdv ct : Value) (us : List Value) (hl : us.length = (["value", "low", "high"] : List Str).length) : bindArgs (PySem.W.fnOf "check_between" "check_between" (defArgs sCkBetween) (defBody sCkBetween) (defScope sCkBetween) .none kV doc pm an cdv ct) ⟨us, []⟩ = pure ((["value", "low", "high"] : List Str).zip us) :=
  match us, hl with | [_, _, _], _ => rfl
theorem bind_sCkFacts (kV doc pm : Value) (an : Option Addr) (cdv ct : Value) (us : List Value) (hl : us.length = (["facts", "most"] : List Str).length) : bindArgs (PySem.W.fnOf "check_facts" "check_facts" (defArgs sCkFacts) (defBody sCkFacts) (defScope sCkFacts) .none kV doc pm an cdv ct) ⟨us, []⟩ = pure ((["facts", "most"] : List Str).zip us) :=
  match us, hl with | [_, _], _ => rfl
theorem bind_sAllQ (kV doc pm : Value) (an : Option Addr) (cdv ct : Value) (us : List Value) (hl : us.length = (["facts"] : List Str).length) : bindArgs (PySem.W.fnOf "all_quarrels" "all_quarrels" (defArgs sAllQ) (defBody sAllQ) (defScope sAllQ) .none kV doc pm an cdv ct) ⟨us, []⟩ = pure ((["facts"] : List Str).zip us) :=
  match us, hl with | [_], _ => rfl
theorem bind_sCkMachine (kV doc pm : Value) (an : Option Addr) (cdv ct : Value) (us : List Value) (hl : us.length = (["facts"] : List Str).length) : bindArgs (PySem.W.fnOf "check_machine" "check_machine" (defArgs sCkMachine) (defBody sCkMachine) (defScope sCkMachine) .none kV doc pm an cdv ct) ⟨us, []⟩ = pure ((["facts"] : List Str).zip us) :=
  match us, hl with | [_], _ => rfl
theorem bind_sKnownBy (kV doc pm : Value) (an : Option Addr) (cdv ct : Value) (us : List Value) (hl : us.length = (["facts", "place"] : List Str).length) : bindArgs (PySem.W.fnOf "known_by" "known_by" (defArgs sKnownBy) (defBody sKnownBy) (defScope sKnownBy) .none kV doc pm an cdv ct) ⟨us, []⟩ = pure ((["facts", "place"] : List Str).zip us) :=
  match us, hl with | [_, _], _ => rfl
theorem bind_sCkPlaces (kV doc pm : Value) (an : Option Addr) (cdv ct : Value) (us : List Value) (hl : us.length = (["places"] : List Str).length) : bindArgs (PySem.W.fnOf "check_places" "check_places" (defArgs sCkPlaces) (defBody sCkPlaces) (defScope sCkPlaces) .none kV doc pm an cdv ct) ⟨us, []⟩ = pure ((["places"] : List Str).zip us) :=
  match us, hl with | [_], _ => rfl
theorem bind_sCkParted (kV doc pm : Value) (an : Option Addr) (cdv ct : Value) (us : List Value) (hl : us.length = (["base"] : List Str).length) : bindArgs (PySem.W.fnOf "check_parted" "check_parted" (defArgs sCkParted) (defBody sCkParted) (defScope sCkParted) .none kV doc pm an cdv ct) ⟨us, []⟩ = pure ((["base"] : List Str).zip us) :=
  match us, hl with | [_], _ => rfl
theorem bind_sCkAsked (kV doc pm : Value) (an : Option Addr) (cdv ct : Value) (us : List Value) (hl : us.length = (["facts", "places", "base"] : List Str).length) : bindArgs (PySem.W.fnOf "check_asked" "check_asked" (defArgs sCkAsked) (defBody sCkAsked) (defScope sCkAsked) .none kV doc pm an cdv ct) ⟨us, []⟩ = pure ((["facts", "places", "base"] : List Str).zip us) :=
  match us, hl with | [_, _, _], _ => rfl
theorem bind_sLeast (kV doc pm : Value) (an : Option Addr) (cdv ct : Value) (us : List Value) (hl : us.length = (["told", "place", "base"] : List Str).length) : bindArgs (PySem.W.fnOf "least_rest" "least_rest" (defArgs sLeast) (defBody sLeast) (defScope sLeast) .none kV doc pm an cdv ct) ⟨us, []⟩ = pure ((["told", "place", "base"] : List Str).zip us) :=
  match us, hl with | [_, _, _], _ => rfl
theorem bind_sNums (kV doc pm : Value) (an : Option Addr) (cdv ct : Value) (us : List Value) (hl : us.length = (["facts", "places", "base"] : List Str).length) : bindArgs (PySem.W.fnOf "numbers_of_rests" "numbers_of_rests" (defArgs sNums) (defBody sNums) (defScope sNums) .none kV doc pm an cdv ct) ⟨us, []⟩ = pure ((["facts", "places", "base"] : List Str).zip us) :=
  match us, hl with | [_, _, _], _ => rfl
theorem bind_sProd (kV doc pm : Value) (an : Option Addr) (cdv ct : Value) (us : List Value) (hl : us.length = (["numbers"] : List Str).length) : bindArgs (PySem.W.fnOf "product" "product" (defArgs sProd) (defBody sProd) (defScope sProd) .none kV doc pm an cdv ct) ⟨us, []⟩ = pure ((["numbers"] : List Str).zip us) :=
  match us, hl with | [_], _ => rfl
theorem bind_sTables (kV doc pm : Value) (an : Option Addr) (cdv ct : Value) (us : List Value) (hl : us.length = (["facts", "places", "base"] : List Str).length) : bindArgs (PySem.W.fnOf "count_tables" "count_tables" (defArgs sTables) (defBody sTables) (defScope sTables) .none kV doc pm an cdv ct) ⟨us, []⟩ = pure ((["facts", "places", "base"] : List Str).zip us) :=
  match us, hl with | [_, _, _], _ => rfl
theorem bind_sAll (kV doc pm : Value) (an : Option Addr) (cdv ct : Value) (us : List Value) (hl : us.length = (["size", "base"] : List Str).length) : bindArgs (PySem.W.fnOf "count_all" "count_all" (defArgs sAll) (defBody sAll) (defScope sAll) .none kV doc pm an cdv ct) ⟨us, []⟩ = pure ((["size", "base"] : List Str).zip us) :=
  match us, hl with | [_, _], _ => rfl
theorem bind_sCell (kV doc pm : Value) (an : Option Addr) (cdv ct : Value) (us : List Value) (hl : us.length = (["_law_cells", "_law_spot"] : List Str).length) : bindArgs (PySem.W.fnOf "_law_cell" "_law_cell" (defArgs sCell) (defBody sCell) (defScope sCell) .none kV doc pm an cdv ct) ⟨us, []⟩ = pure ((["_law_cells", "_law_spot"] : List Str).zip us) :=
  match us, hl with | [_, _], _ => rfl
theorem bind_sJar (kV doc pm : Value) (an : Option Addr) (cdv ct : Value) (us : List Value) (hl : us.length = (["_law_cells", "_law_spot"] : List Str).length) : bindArgs (PySem.W.fnOf "_law_jar" "_law_jar" (defArgs sJar) (defBody sJar) (defScope sJar) .none kV doc pm an cdv ct) ⟨us, []⟩ = pure ((["_law_cells", "_law_spot"] : List Str).zip us) :=
  match us, hl with | [_, _], _ => rfl
theorem bind_sDig (kV doc pm : Value) (an : Option Addr) (cdv ct : Value) (us : List Value) (hl : us.length = (["_law_jar_here", "_law_many"] : List Str).length) : bindArgs (PySem.W.fnOf "_law_dig" "_law_dig" (defArgs sDig) (defBody sDig) (defScope sDig) .none kV doc pm an cdv ct) ⟨us, []⟩ = pure ((["_law_jar_here", "_law_many"] : List Str).zip us) :=
  match us, hl with | [_, _], _ => rfl
theorem bind_sTake (kV doc pm : Value) (an : Option Addr) (cdv ct : Value) (us : List Value) (hl : us.length = (["_law_jar_here", "_law_some"] : List Str).length) : bindArgs (PySem.W.fnOf "_law_take" "_law_take" (defArgs sTake) (defBody sTake) (defScope sTake) .none kV doc pm an cdv ct) ⟨us, []⟩ = pure ((["_law_jar_here", "_law_some"] : List Str).zip us) :=
  match us, hl with | [_, _], _ => rfl
theorem bind_sLGcd (kV doc pm : Value) (an : Option Addr) (cdv ct : Value) (us : List Value) (hl : us.length = (["_law_a", "_law_b"] : List Str).length) : bindArgs (PySem.W.fnOf "_law_gcd" "_law_gcd" (defArgs sLGcd) (defBody sLGcd) (defScope sLGcd) .none kV doc pm an cdv ct) ⟨us, []⟩ = pure ((["_law_a", "_law_b"] : List Str).zip us) :=
  match us, hl with | [_, _], _ => rfl
theorem bind_sLLcm (kV doc pm : Value) (an : Option Addr) (cdv ct : Value) (us : List Value) (hl : us.length = (["_law_a", "_law_b"] : List Str).length) : bindArgs (PySem.W.fnOf "_law_lcm" "_law_lcm" (defArgs sLLcm) (defBody sLLcm) (defScope sLLcm) .none kV doc pm an cdv ct) ⟨us, []⟩ = pure ((["_law_a", "_law_b"] : List Str).zip us) :=
  match us, hl with | [_, _], _ => rfl
theorem bind_sMaps (kV doc pm : Value) (an : Option Addr) (cdv ct : Value) (us : List Value) (hl : us.length = (["_law_n"] : List Str).length) : bindArgs (PySem.W.fnOf "_law_maps" "_law_maps" (defArgs sMaps) (defBody sMaps) (defScope sMaps) .none kV doc pm an cdv ct) ⟨us, []⟩ = pure ((["_law_n"] : List Str).zip us) :=
  match us, hl with | [_], _ => rfl
theorem bind_sRight (kV doc pm : Value) (an : Option Addr) (cdv ct : Value) (us : List Value) (hl : us.length = (["_law_jar_here"] : List Str).length) : bindArgs (PySem.W.fnOf "_law_right" "_law_right" (defArgs sRight) (defBody sRight) (defScope sRight) .none kV doc pm an cdv ct) ⟨us, []⟩ = pure ((["_law_jar_here"] : List Str).zip us) :=
  match us, hl with | [_], _ => rfl
/-- all defs but the law's own -/
structure AllHas (K : PySem.W.Frag) (mg : Str → Option Value) : Prop where
  h_sGcd : Has K mg "gcd" sGcd ["one", "other"]
  h_sLcm : Has K mg "lcm" sLcm ["one", "other"]
  h_sRestBy : Has K mg "rest_by" sRestBy ["number", "base"]
  h_sInverse : Has K mg "inverse" sInverse ["number", "base"]
  h_sMet : Has K mg "met" sMet ["one", "other"]
  h_sIsInt : Has K mg "is_integer" sIsInt ["value"]
  h_sIsBetween : Has K mg "is_between" sIsBetween ["value", "low", "high"]
  h_sIsBase : Has K mg "is_base" sIsBase ["value"]
  h_sCkBetween : Has K mg "check_between" sCkBetween ["value", "low", "high"]
  h_sCkFacts : Has K mg "check_facts" sCkFacts ["facts", "most"]
  h_sAllQ : Has K mg "all_quarrels" sAllQ ["facts"]
  h_sCkMachine : Has K mg "check_machine" sCkMachine ["facts"]
  h_sKnownBy : Has K mg "known_by" sKnownBy ["facts", "place"]
  h_sCkPlaces : Has K mg "check_places" sCkPlaces ["places"]
  h_sCkParted : Has K mg "check_parted" sCkParted ["base"]
  h_sCkAsked : Has K mg "check_asked" sCkAsked ["facts", "places", "base"]
  h_sLeast : Has K mg "least_rest" sLeast ["told", "place", "base"]
  h_sNums : Has K mg "numbers_of_rests" sNums ["facts", "places", "base"]
  h_sProd : Has K mg "product" sProd ["numbers"]
  h_sTables : Has K mg "count_tables" sTables ["facts", "places", "base"]
  h_sAll : Has K mg "count_all" sAll ["size", "base"]
  h_sCell : Has K mg "_law_cell" sCell ["_law_cells", "_law_spot"]
  h_sJar : Has K mg "_law_jar" sJar ["_law_cells", "_law_spot"]
  h_sDig : Has K mg "_law_dig" sDig ["_law_jar_here", "_law_many"]
  h_sTake : Has K mg "_law_take" sTake ["_law_jar_here", "_law_some"]
  h_sLGcd : Has K mg "_law_gcd" sLGcd ["_law_a", "_law_b"]
  h_sLLcm : Has K mg "_law_lcm" sLLcm ["_law_a", "_law_b"]
  h_sMaps : Has K mg "_law_maps" sMaps ["_law_n"]
  h_sRight : Has K mg "_law_right" sRight ["_law_jar_here"]
  c_MOST_FACTS : ∃ t, mg "MOST_FACTS" = some (.int 40 t)
  c_MOST_PLACES : ∃ t, mg "MOST_PLACES" = some (.int 40 t)
  c_MOST_SIZE : ∃ t, mg "MOST_SIZE" = some (.int 200 t)
  bl : Bl mg
theorem all_law {l : PySem.W.OpenLaw} {fa f : Addr} {oc : Value} {od an : Option Addr} {osl : Array (Option Value)} {kV doc pm cdv ct : Value} (X : K.In h) (G : h.Ns mainGlobals mg) (hfa : mg "law" = some (.ref fa)) (S : AllHas K mg)
    (a : PySem.W.nsIn K mainGlobals "law" = some (some (.ref f))) (lk : K.lookup f = some ⟨oc, od, .func (PySem.W.fnOf "law" "law" (defArgs sLaw) (defBody sLaw) (defScope sLaw) .none kV doc pm an cdv ct), osl⟩) (c : PySem.W.codeIn K cdv "law" = true) (k : PySem.W.keepIn K (.ref f) = true) :
    ∃ fd : FuncData, (∀ (s : Shared) (v : Value), BindsTo s fd ⟨[v], []⟩ [("_law_cells", v)]) ∧ ∀ base : Heap, K.In base → base.Ns mainGlobals mg → FnOk l.prog w K mg base CX0 9 fa fd ["_law_cells"] (spLaw K) := by
  have e := hfa.symm.trans (PySem.W.mg_of X G a)
  cases e
  refine ⟨_, fun s v => .of_eq rfl, fun base _ _ => fn_law (fun_mk (st := sLaw) lk c k) ?_ ?_ S.bl⟩
  · exact ok_jar S.h_sJar (ok_cell S.h_sCell S.bl) S.bl
  · have g1 : Ok l.prog w K mg base 1 "gcd" ["one", "other"] spGcd := ok_gcd S.h_sGcd S.bl.abs
    have g2 : Ok l.prog w K mg base 2 "lcm" ["one", "other"] spLcm := ok_lcm S.h_sLcm g1 S.bl.abs
    have g3 : Ok l.prog w K mg base 1 "rest_by" ["number", "base"] spRestBy := ok_restBy S.h_sRestBy
    have g4 : Ok l.prog w K mg base 1 "inverse" ["number", "base"] spInv := ok_inv S.h_sInverse
    have g5 : Ok l.prog w K mg base 3 "met" ["one", "other"] spMet := ok_met S.h_sMet g1 g2 g4
    have i1 : Ok l.prog w K mg base 1 "is_integer" ["value"] spIsInt := ok_isInt S.h_sIsInt S.bl
    have i2 : Ok l.prog w K mg base 2 "is_between" ["value", "low", "high"] spIsBetween := ok_isBetween S.h_sIsBetween i1
    have i3 : Ok l.prog w K mg base 2 "is_base" ["value"] spIsBase := ok_isBase S.h_sIsBase i1
    have i4 : Ok l.prog w K mg base 3 "check_between" ["value", "low", "high"] spCkBetween := ok_ckBetween S.h_sCkBetween i2
    have i5 : Ok l.prog w K mg base 3 "check_parted" ["base"] spCkParted := ok_ckParted S.h_sCkParted i3
    have f1 : Ok l.prog w K mg base 1 "check_facts" ["facts", "most"] spCkFacts := ok_ckFacts S.h_sCkFacts S.bl
    have f2 : Ok l.prog w K mg base 1 "all_quarrels" ["facts"] spAllQ := ok_allQ S.h_sAllQ S.bl
    have f3 : Ok l.prog w K mg base 2 "check_machine" ["facts"] spCkMachine := ok_ckMachine S.h_sCkMachine f2
    have f4 : Ok l.prog w K mg base 4 "known_by" ["facts", "place"] spKnownBy := ok_knownBy S.h_sKnownBy g1 g5 g3
    have p1 : Ok l.prog w K mg base 2 "check_places" ["places"] spCkPlaces := ok_ckPlaces S.h_sCkPlaces i1 S.bl S.c_MOST_PLACES
    have t1 : Ok l.prog w K mg base 4 "check_asked" ["facts", "places", "base"] spCkAsked := ok_ckAsked S.h_sCkAsked f1 p1 i5 S.c_MOST_FACTS
    have t2 : Ok l.prog w K mg base 5 "least_rest" ["told", "place", "base"] spLeast := ok_least S.h_sLeast f4 g1
    have t3 : Ok l.prog w K mg base 6 "numbers_of_rests" ["facts", "places", "base"] spNums := ok_nums S.h_sNums t2 S.bl
    have t4 : Ok l.prog w K mg base 1 "product" ["numbers"] spProd := ok_prod S.h_sProd
    have t5 : Ok l.prog w K mg base 7 "count_tables" ["facts", "places", "base"] spTables := ok_tables S.h_sTables t1 f3 t4 t3
    have t6 : Ok l.prog w K mg base 4 "count_all" ["size", "base"] spAll := ok_all S.h_sAll i4 i5 g2 g1 S.bl S.c_MOST_SIZE
    have t7 : OkN l.prog w K mg base 4 "count_all" ["size", "base"] ["base", "size"] turned turned spAll := okN_all S.h_sAll i4 i5 g2 g1 S.bl S.c_MOST_SIZE
    have l1 : Ok l.prog w K mg base 1 "_law_dig" ["_law_jar_here", "_law_many"] spDig := ok_dig S.h_sDig S.bl
    have l2 : Ok l.prog w K mg base 2 "_law_take" ["_law_jar_here", "_law_some"] spTake := ok_take S.h_sTake l1 S.bl
    have l3 : Ok l.prog w K mg base 1 "_law_gcd" ["_law_a", "_law_b"] spGcd := ok_lgcd S.h_sLGcd S.bl
    have l4 : Ok l.prog w K mg base 2 "_law_lcm" ["_law_a", "_law_b"] spLcm := ok_llcm S.h_sLLcm l3
    have l5 : Ok l.prog w K mg base 2 "_law_maps" ["_law_n"] spMaps := ok_maps S.h_sMaps l3 S.bl
    exact ok_right S.h_sRight l2 l1 l3 l4 t6 t7 t5 l5 S.bl
end
end K38

open PySem PySem.W PyProof.Rows
set_option maxRecDepth 100000 in
set_option maxHeartbeats 0 in
theorem PySem.Challenge.cw_keptrests_k38_whole_all_tables_from_noug_holds : PySem.Challenge.rw_keptrests_k38_whole_all_tables_from_noug.Holds := by
  w_on; o_law; k_head; (case hw => w_witness2)
  k_fill
  refine L2.walk_of (l := PySem.Challenge.rw_keptrests_k38_whole_all_tables_from_noug) (n := 63) (k := 9) (x := "_law_cells") (CX := fun _ => L2.CX0) (sp := fun w => K38.spLaw _) rfl (by decide) rfl ⟨rfl, by decide, by decide⟩ (fun w h Y => PySem.W.kIn_of Y) ?F (fun _ _ a ns hl _ hS => ⟨a, ns, rfl, hS, fun _ => rfl⟩) (fun _ _ _ _ _ h => h)
  case F =>
    intro w mg fa h KX G hmg
    refine' K38.all_law KX G hmg ⟨K38.has_of KX G ?a0 ?l0 ?c0 ?k0 K38.bind_sGcd,
      K38.has_of KX G ?a1 ?l1 ?c1 ?k1 K38.bind_sLcm,
      K38.has_of KX G ?a2 ?l2 ?c2 ?k2 K38.bind_sRestBy,
      K38.has_of KX G ?a3 ?l3 ?c3 ?k3 K38.bind_sInverse,
      K38.has_of KX G ?a4 ?l4 ?c4 ?k4 K38.bind_sMet,
      K38.has_of KX G ?a5 ?l5 ?c5 ?k5 K38.bind_sIsInt,
      K38.has_of KX G ?a6 ?l6 ?c6 ?k6 K38.bind_sIsBetween,
      K38.has_of KX G ?a7 ?l7 ?c7 ?k7 K38.bind_sIsBase,
      K38.has_of KX G ?a8 ?l8 ?c8 ?k8 K38.bind_sCkBetween,
      K38.has_of KX G ?a9 ?l9 ?c9 ?k9 K38.bind_sCkFacts,
      K38.has_of KX G ?a10 ?l10 ?c10 ?k10 K38.bind_sAllQ,
      K38.has_of KX G ?a11 ?l11 ?c11 ?k11 K38.bind_sCkMachine,
      K38.has_of KX G ?a12 ?l12 ?c12 ?k12 K38.bind_sKnownBy,
      K38.has_of KX G ?a13 ?l13 ?c13 ?k13 K38.bind_sCkPlaces,
      K38.has_of KX G ?a14 ?l14 ?c14 ?k14 K38.bind_sCkParted,
      K38.has_of KX G ?a15 ?l15 ?c15 ?k15 K38.bind_sCkAsked,
      K38.has_of KX G ?a16 ?l16 ?c16 ?k16 K38.bind_sLeast,
      K38.has_of KX G ?a17 ?l17 ?c17 ?k17 K38.bind_sNums,
      K38.has_of KX G ?a18 ?l18 ?c18 ?k18 K38.bind_sProd,
      K38.has_of KX G ?a19 ?l19 ?c19 ?k19 K38.bind_sTables,
      K38.has_of KX G ?a20 ?l20 ?c20 ?k20 K38.bind_sAll,
      K38.has_of KX G ?a21 ?l21 ?c21 ?k21 K38.bind_sCell,
      K38.has_of KX G ?a22 ?l22 ?c22 ?k22 K38.bind_sJar,
      K38.has_of KX G ?a23 ?l23 ?c23 ?k23 K38.bind_sDig,
      K38.has_of KX G ?a24 ?l24 ?c24 ?k24 K38.bind_sTake,
      K38.has_of KX G ?a25 ?l25 ?c25 ?k25 K38.bind_sLGcd,
      K38.has_of KX G ?a26 ?l26 ?c26 ?k26 K38.bind_sLLcm,
      K38.has_of KX G ?a27 ?l27 ?c27 ?k27 K38.bind_sMaps,
      K38.has_of KX G ?a28 ?l28 ?c28 ?k28 K38.bind_sRight,
      K38.con_of KX G ?m0 ?e0, K38.con_of KX G ?m1 ?e1, K38.con_of KX G ?m2 ?e2,
      ⟨PySem.W.mg_none_of KX G ?z0, PySem.W.mg_none_of KX G ?z1, PySem.W.mg_none_of KX G ?z2, PySem.W.mg_none_of KX G ?z3, PySem.W.mg_none_of KX G ?z4, PySem.W.mg_none_of KX G ?z5, PySem.W.mg_none_of KX G ?z6, PySem.W.mg_none_of KX G ?z7, PySem.W.mg_none_of KX G ?z8, PySem.W.mg_none_of KX G ?z9, PySem.W.mg_none_of KX G ?z10, PySem.W.mg_none_of KX G ?z11, PySem.W.mg_none_of KX G ?z12, PySem.W.mg_none_of KX G ?z13⟩⟩ ?a ?l ?c ?k
    (case a0 => k_is); (case l0 => k_is); (case c0 => k_is); (case k0 => k_is)
    (case a1 => k_is); (case l1 => k_is); (case c1 => k_is); (case k1 => k_is)
    (case a2 => k_is); (case l2 => k_is); (case c2 => k_is); (case k2 => k_is)
    (case a3 => k_is); (case l3 => k_is); (case c3 => k_is); (case k3 => k_is)
    (case a4 => k_is); (case l4 => k_is); (case c4 => k_is); (case k4 => k_is)
    (case a5 => k_is); (case l5 => k_is); (case c5 => k_is); (case k5 => k_is)
    (case a6 => k_is); (case l6 => k_is); (case c6 => k_is); (case k6 => k_is)
    (case a7 => k_is); (case l7 => k_is); (case c7 => k_is); (case k7 => k_is)
    (case a8 => k_is); (case l8 => k_is); (case c8 => k_is); (case k8 => k_is)
    (case a9 => k_is); (case l9 => k_is); (case c9 => k_is); (case k9 => k_is)
    (case a10 => k_is); (case l10 => k_is); (case c10 => k_is); (case k10 => k_is)
    (case a11 => k_is); (case l11 => k_is); (case c11 => k_is); (case k11 => k_is)
    (case a12 => k_is); (case l12 => k_is); (case c12 => k_is); (case k12 => k_is)
    (case a13 => k_is); (case l13 => k_is); (case c13 => k_is); (case k13 => k_is)
    (case a14 => k_is); (case l14 => k_is); (case c14 => k_is); (case k14 => k_is)
    (case a15 => k_is); (case l15 => k_is); (case c15 => k_is); (case k15 => k_is)
    (case a16 => k_is); (case l16 => k_is); (case c16 => k_is); (case k16 => k_is)
    (case a17 => k_is); (case l17 => k_is); (case c17 => k_is); (case k17 => k_is)
    (case a18 => k_is); (case l18 => k_is); (case c18 => k_is); (case k18 => k_is)
    (case a19 => k_is); (case l19 => k_is); (case c19 => k_is); (case k19 => k_is)
    (case a20 => k_is); (case l20 => k_is); (case c20 => k_is); (case k20 => k_is)
    (case a21 => k_is); (case l21 => k_is); (case c21 => k_is); (case k21 => k_is)
    (case a22 => k_is); (case l22 => k_is); (case c22 => k_is); (case k22 => k_is)
    (case a23 => k_is); (case l23 => k_is); (case c23 => k_is); (case k23 => k_is)
    (case a24 => k_is); (case l24 => k_is); (case c24 => k_is); (case k24 => k_is)
    (case a25 => k_is); (case l25 => k_is); (case c25 => k_is); (case k25 => k_is)
    (case a26 => k_is); (case l26 => k_is); (case c26 => k_is); (case k26 => k_is)
    (case a27 => k_is); (case l27 => k_is); (case c27 => k_is); (case k27 => k_is)
    (case a28 => k_is); (case l28 => k_is); (case c28 => k_is); (case k28 => k_is)
    (case m0 => k_is); (case e0 => exact ⟨_, rfl⟩)
    (case m1 => k_is); (case e1 => exact ⟨_, rfl⟩)
    (case m2 => k_is); (case e2 => exact ⟨_, rfl⟩)
    (case z0 => k_is)
    (case z1 => k_is)
    (case z2 => k_is)
    (case z3 => k_is)
    (case z4 => k_is)
    (case z5 => k_is)
    (case z6 => k_is)
    (case z7 => k_is)
    (case z8 => k_is)
    (case z9 => k_is)
    (case z10 => k_is)
    (case z11 => k_is)
    (case z12 => k_is)
    (case z13 => k_is)
    (case a => k_is); (case l => k_is); (case c => k_is); (case k => k_is)
