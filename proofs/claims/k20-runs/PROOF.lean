import PyProof.Rows.All
import Wide.All
import OpenK.AllK
import Wide.FinOn
import HandS.ForMost
import HandS.Strs
import HandS.SetFor
import HandS.Sort
import HandS.Conv
import HandS.IsInst
import HandS.Gcd
import HandS.Wide
import HandS.Defaults
import HandS.Flow
import HandS.Style
import HandS.TupAny
import KE.SortData
import HandS.Walk
import HandS.Codes
import PyProof.ReprBulk
import PyProof.Rows.ReprShort
import PySem.Challenge.RW_oddkeep_k20_whole_runs_of_steps
set_option Elab.async false
set_option linter.all false
set_option maxRecDepth 100000
set_option maxHeartbeats 16000000
set_option exponentiation.threshold 2000
/-! K20Math: the plain mathematics of runs and masses over the rationals; no program in sight. -/
namespace K20

/-! ### pairs in lowest terms -/
abbrev gc (n d : Int) : Int := ((Nat.gcd n.natAbs d.natAbs : Nat) : Int)
theorem gc_pos {n d : Int} (hd : 0 < d) : 0 < gc n d := by
  have h : 0 < Nat.gcd n.natAbs d.natAbs := Nat.gcd_pos_of_pos_right _ (by omega)
  show (0 : Int) < ((Nat.gcd n.natAbs d.natAbs : Nat) : Int)
  omega
theorem gc_le {n d : Int} (hd : 0 < d) : (gc n d).natAbs ≤ d.natAbs := by
  show (((Nat.gcd n.natAbs d.natAbs : Nat) : Int)).natAbs ≤ d.natAbs
  rw [Int.natAbs_natCast]
  exact Nat.gcd_le_right _ (by omega)
theorem mk_num (n : Int) (d : Nat) (hd : d ≠ 0) : (mkRat n d).num = n / gc n (d : Int) := by
  rw [Rat.num_mkRat, if_neg hd, Nat.gcd_comm]
  rfl
theorem mk_den (n : Int) (d : Nat) (hd : d ≠ 0) : ((mkRat n d).den : Int) = (d : Int) / gc n (d : Int) := by
  rw [Rat.den_mkRat, if_neg hd, Nat.gcd_comm]
  show ((d / Nat.gcd n.natAbs d : Nat) : Int) = (d : Int) / ((Nat.gcd n.natAbs (d : Int).natAbs : Nat) : Int)
  rw [Int.natAbs_natCast, Int.natCast_ediv]
theorem add_pair (p q : Rat) : (p + q).num = (p.num * q.den + q.num * p.den) / gc (p.num * q.den + q.num * p.den) ((p.den : Int) * q.den) ∧
    ((p + q).den : Int) = ((p.den : Int) * q.den) / gc (p.num * q.den + q.num * p.den) ((p.den : Int) * q.den) := by
  have e : p + q = mkRat (p.num * q.den + q.num * p.den) (p.den * q.den) := Rat.add_def' p q
  have h : p.den * q.den ≠ 0 := Nat.mul_ne_zero p.den_nz q.den_nz
  rw [e, mk_num _ _ h, mk_den _ _ h, Int.natCast_mul]
  exact ⟨rfl, rfl⟩
theorem mul_pair (p q : Rat) : (p * q).num = (p.num * q.num) / gc (p.num * q.num) ((p.den : Int) * q.den) ∧
    ((p * q).den : Int) = ((p.den : Int) * q.den) / gc (p.num * q.num) ((p.den : Int) * q.den) := by
  have e : p * q = mkRat (p.num * q.num) (p.den * q.den) := Rat.mul_def' p q
  have h : p.den * q.den ≠ 0 := Nat.mul_ne_zero p.den_nz q.den_nz
  rw [e, mk_num _ _ h, mk_den _ _ h, Int.natCast_mul]
  exact ⟨rfl, rfl⟩
/-- a number told again is itself -/
theorem same_pair (q : Rat) : q.num / gc q.num (q.den : Int) = q.num ∧ (q.den : Int) / gc q.num (q.den : Int) = q.den := by
  have h : gc q.num (q.den : Int) = 1 := by
    show ((Nat.gcd q.num.natAbs ((q.den : Int)).natAbs : Nat) : Int) = 1
    rw [Int.natAbs_natCast]
    have r : Nat.gcd q.num.natAbs q.den = 1 := q.reduced
    rw [r]
    rfl
  rw [h, Int.ediv_one, Int.ediv_one]
  exact ⟨rfl, rfl⟩
theorem den_pos (q : Rat) : (0 : Int) < (q.den : Int) := by
  have := q.den_pos
  omega

/-! ### how large numbers are -/
def Wd (D B : Nat) (q : Rat) : Prop := 0 ≤ q ∧ q ≤ (B : Rat) ∧ q.den ∣ D
/-- numbers that may be reckoned with -/
def Lit (q : Rat) : Prop := q.num.natAbs < 2 ^ 400 ∧ q.den < 2 ^ 400
theorem den_add_dvd (p q : Rat) : (p + q).den ∣ p.den * q.den := by
  rw [Rat.den_add]
  exact Nat.div_dvd_of_dvd (Nat.gcd_dvd_right _ _)
theorem den_mul_dvd (p q : Rat) : (p * q).den ∣ p.den * q.den := by
  rw [Rat.den_mul]
  exact Nat.div_dvd_of_dvd (Nat.gcd_dvd_right _ _)
/-- q is an int over D -/
theorem over_of {q : Rat} {D : Nat} (h : q.den ∣ D) (hD : D ≠ 0) : ∃ m : Int, q = mkRat m D := by
  obtain ⟨k, e⟩ := h
  have hk : k ≠ 0 := by
    intro z
    rw [z, Nat.mul_zero] at e
    exact hD e
  refine ⟨q.num * (k : Int), ?_⟩
  rw [e, Rat.mkRat_mul_right hk, Rat.mkRat_self]
theorem den_mk_dvd (m : Int) (D : Nat) (hD : D ≠ 0) : (mkRat m D).den ∣ D := by
  rw [Rat.den_mkRat, if_neg hD]
  exact Nat.div_dvd_of_dvd (Nat.gcd_dvd_left _ _)
theorem den_add_same {p q : Rat} {D : Nat} (hD : D ≠ 0) (hp : p.den ∣ D) (hq : q.den ∣ D) : (p + q).den ∣ D := by
  obtain ⟨m, rfl⟩ := over_of hp hD
  obtain ⟨k, rfl⟩ := over_of hq hD
  have e : mkRat m D + mkRat k D = mkRat (m + k) D := by
    rw [Rat.mkRat_eq_div, Rat.mkRat_eq_div, Rat.mkRat_eq_div, Rat.intCast_add]
    grind
  rw [e]
  exact den_mk_dvd _ _ hD
theorem Wd.zero (D : Nat) : Wd D 0 0 := ⟨Rat.le_refl, Rat.le_refl, by
  rw [Rat.zero_den]
  exact Nat.one_dvd _⟩
theorem Wd.one (D : Nat) : Wd D 1 1 := ⟨by decide, by decide, by
  rw [Rat.one_den]
  exact Nat.one_dvd _⟩
theorem Wd.mono {D D' B B' : Nat} {q : Rat} (h : Wd D B q) (hD : D ∣ D') (hB : B ≤ B') : Wd D' B' q :=
  ⟨h.1, Rat.le_trans h.2.1 (Rat.natCast_le_natCast.mpr hB), Nat.dvd_trans h.2.2 hD⟩
theorem Wd.add {D B C : Nat} {p q : Rat} (hD : D ≠ 0) (h : Wd D B p) (k : Wd D C q) : Wd D (B + C) (p + q) := by
  refine ⟨Rat.add_nonneg h.1 k.1, ?_, den_add_same hD h.2.2 k.2.2⟩
  rw [Rat.natCast_add]
  have h1 := h.2.1
  have h2 := k.2.1
  grind
theorem Wd.mul {D E B C : Nat} {p q : Rat} (h : Wd D B p) (k : Wd E C q) : Wd (D * E) (B * C) (p * q) := by
  refine ⟨Rat.mul_nonneg h.1 k.1, ?_, Nat.dvd_trans (den_mul_dvd p q) (Nat.mul_dvd_mul h.2.2 k.2.2)⟩
  rw [Rat.natCast_mul]
  exact Rat.le_trans (Rat.mul_le_mul_of_nonneg_right h.2.1 k.1) (Rat.mul_le_mul_of_nonneg_left k.2.1 Rat.natCast_nonneg)
theorem Wd.num {D B : Nat} {q : Rat} (hD : D ≠ 0) (h : Wd D B q) : q.num.natAbs ≤ B * D ∧ q.den ≤ D := by
  have hd : q.den ≤ D := Nat.le_of_dvd (by omega) h.2.2
  refine ⟨?_, hd⟩
  have h0 : 0 ≤ q.num := Rat.num_nonneg.mpr h.1
  have h1 := (Rat.le_iff q (B : Rat)).mp h.2.1
  rw [Rat.num_natCast, Rat.den_natCast] at h1
  have h2 : q.num ≤ (B : Int) * (q.den : Int) := by
    have : q.num * ((1 : Nat) : Int) = q.num := Int.mul_one _
    omega
  have h3 : (B : Int) * (q.den : Int) ≤ (B : Int) * (D : Int) := Int.mul_le_mul_of_nonneg_left (by omega) (by omega)
  have h4 : q.num ≤ ((B * D : Nat) : Int) := by
    rw [Int.natCast_mul]
    omega
  omega
theorem Wd.lit {D B : Nat} {q : Rat} (h : Wd D B q) (hD : D ≠ 0) (h1 : D < 2 ^ 400) (h2 : B * D < 2 ^ 400) : Lit q :=
  ⟨Nat.lt_of_le_of_lt (h.num hD).1 h2, Nat.lt_of_le_of_lt (h.num hD).2 h1⟩

/-! ### finite sums -/
def sm {α : Type} (l : List α) (f : α → Rat) : Rat := l.foldr (fun a s => f a + s) 0
section
variable {α β : Type}
theorem sm_nil (f : α → Rat) : sm [] f = 0 := rfl
theorem sm_cons (a : α) (l : List α) (f : α → Rat) : sm (a :: l) f = f a + sm l f := rfl
theorem sm_append (l m : List α) (f : α → Rat) : sm (l ++ m) f = sm l f + sm m f := by
  induction l with
  | nil => rw [List.nil_append, sm_nil, Rat.zero_add]
  | cons a l ih => rw [List.cons_append, sm_cons, sm_cons, ih, Rat.add_assoc]
theorem sm_map (g : β → α) (l : List β) (f : α → Rat) : sm (l.map g) f = sm l fun b => f (g b) := by
  induction l with
  | nil => rfl
  | cons a l ih => rw [List.map_cons, sm_cons, sm_cons, ih]
theorem sm_flatMap (g : β → List α) (l : List β) (f : α → Rat) : sm (l.flatMap g) f = sm l fun b => sm (g b) f := by
  induction l with
  | nil => rfl
  | cons a l ih => rw [List.flatMap_cons, sm_append, sm_cons, ih]
theorem sm_congr {l : List α} {f g : α → Rat} (h : ∀ a ∈ l, f a = g a) : sm l f = sm l g := by
  induction l with
  | nil => rfl
  | cons a l ih =>
    rw [sm_cons, sm_cons, h a List.mem_cons_self, ih fun b hb => h b (List.mem_cons_of_mem _ hb)]
theorem sm_zero (l : List α) : sm l (fun _ => 0) = 0 := by
  induction l with
  | nil => rfl
  | cons a l ih => rw [sm_cons, ih, Rat.zero_add]
theorem sm_add (l : List α) (f g : α → Rat) : sm l (fun a => f a + g a) = sm l f + sm l g := by
  induction l with
  | nil => rw [sm_nil, sm_nil, sm_nil, Rat.zero_add]
  | cons a l ih =>
    rw [sm_cons, sm_cons, sm_cons, ih]
    grind
theorem sm_mul (c : Rat) (l : List α) (f : α → Rat) : sm l (fun a => c * f a) = c * sm l f := by
  induction l with
  | nil => rw [sm_nil, sm_nil, Rat.mul_zero]
  | cons a l ih => rw [sm_cons, sm_cons, ih, Rat.mul_add]
theorem sm_swap (l : List α) (m : List β) (f : α → β → Rat) : sm l (fun a => sm m (f a)) = sm m fun b => sm l fun a => f a b := by
  induction l with
  | nil => rw [sm_nil, ← sm_zero m]; rfl
  | cons a l ih =>
    rw [sm_cons, ih, ← sm_add]
    rfl
/-- of a list without doubles just one counts -/
theorem sm_one [DecidableEq α] {l : List α} (h : l.Nodup) (y : α) (f : α → Rat) : sm l (fun a => if a = y then f a else 0) = if y ∈ l then f y else 0 := by
  induction l with
  | nil => rfl
  | cons a l ih =>
    have hn : a ∉ l := (List.nodup_cons.mp h).1
    rw [sm_cons, ih (List.nodup_cons.mp h).2]
    by_cases e : a = y
    · subst e
      rw [if_pos rfl, if_neg hn, if_pos List.mem_cons_self, Rat.add_zero]
    · rw [if_neg e, Rat.zero_add]
      by_cases hy : y ∈ l
      · rw [if_pos hy, if_pos (List.mem_cons_of_mem _ hy)]
      · rw [if_neg hy, if_neg fun z => (List.mem_cons.mp z).elim (fun q => e q.symm) hy]
end

/-! ### what is added up at a place -/
def at_ (y : Nat) (l : List (Rat × Nat)) : Rat := sm l fun b => if b.2 = y then b.1 else 0
def acc (L : List Rat) (ops : List (Rat × Nat)) : List Rat := ops.foldl (fun L o => L.set o.2 (L.getD o.2 0 + o.1)) L
theorem acc_nil (L : List Rat) : acc L [] = L := rfl
theorem acc_cons (L : List Rat) (o : Rat × Nat) (ops : List (Rat × Nat)) : acc L (o :: ops) = acc (L.set o.2 (L.getD o.2 0 + o.1)) ops := rfl
theorem acc_append (L : List Rat) (a b : List (Rat × Nat)) : acc L (a ++ b) = acc (acc L a) b := by
  unfold acc
  rw [List.foldl_append]
theorem acc_snoc (L : List Rat) (a : List (Rat × Nat)) (o : Rat × Nat) : acc L (a ++ [o]) = (acc L a).set o.2 ((acc L a).getD o.2 0 + o.1) := acc_append L a [o]
theorem acc_len (ops : List (Rat × Nat)) : ∀ L : List Rat, (acc L ops).length = L.length := by
  induction ops with
  | nil => intro L; rfl
  | cons o ops ih =>
    intro L
    rw [acc_cons, ih, List.length_set]
theorem acc_get (ops : List (Rat × Nat)) : ∀ (L : List Rat) (y : Nat), y < L.length → (acc L ops).getD y 0 = L.getD y 0 + at_ y ops := by
  induction ops with
  | nil =>
    intro L y hy
    show L.getD y 0 = L.getD y 0 + 0
    rw [Rat.add_zero]
  | cons o ops ih =>
    intro L y hy
    rw [acc_cons, ih _ y (by rw [List.length_set]; exact hy)]
    show _ = L.getD y 0 + ((if o.2 = y then o.1 else 0) + at_ y ops)
    by_cases e : o.2 = y
    · rw [if_pos e, e]
      have q : (L.set y (L.getD y 0 + o.1)).getD y 0 = L.getD y 0 + o.1 := by
        rw [List.getD_eq_getElem?_getD, List.getElem?_set_self hy]
        rfl
      rw [q, Rat.add_assoc]
    · rw [if_neg e, Rat.zero_add]
      have q : (L.set o.2 (L.getD o.2 0 + o.1)).getD y 0 = L.getD y 0 := by
        rw [List.getD_eq_getElem?_getD, List.getElem?_set_ne e, ← List.getD_eq_getElem?_getD]
      rw [q]
theorem ext_getD {L M : List Rat} (hl : L.length = M.length) (h : ∀ y, y < L.length → L.getD y 0 = M.getD y 0) : L = M := by
  refine List.ext_getElem hl fun i h1 h2 => ?_
  have e := h i h1
  rw [List.getD_eq_getElem?_getD, List.getD_eq_getElem?_getD, List.getElem?_eq_getElem h1, List.getElem?_eq_getElem h2] at e
  exact e
theorem acc_wd {D B C : Nat} (hD : D ≠ 0) {ops : List (Rat × Nat)} (ho : ∀ o ∈ ops, Wd D C o.1) : ∀ {L : List Rat}, (∀ x ∈ L, Wd D B x) → ∀ x ∈ acc L ops, Wd D (B + ops.length * C) x := by
  induction ops generalizing B with
  | nil =>
    intro L hL x hx
    rw [List.length_nil, Nat.zero_mul, Nat.add_zero]
    exact hL x hx
  | cons o ops ih =>
    intro L hL x hx
    have ho1 : Wd D C o.1 := ho o List.mem_cons_self
    rw [acc_cons] at hx
    have h2 : ∀ x ∈ L.set o.2 (L.getD o.2 0 + o.1), Wd D (B + C) x := by
      intro z hz
      rcases List.mem_or_eq_of_mem_set hz with h | h
      · exact (hL z h).mono (Nat.dvd_refl _) (Nat.le_add_right _ _)
      · rw [h]
        refine Wd.add hD ?_ ho1
        rw [List.getD_eq_getElem?_getD]
        cases e : L[o.2]? with
        | none => exact (Wd.zero D).mono (Nat.dvd_refl _) (Nat.zero_le _)
        | some z => exact hL z (List.mem_of_getElem? e)
    have h3 := ih (B := B + C) (fun q hq => ho q (List.mem_cons_of_mem _ hq)) h2 x hx
    refine h3.mono (Nat.dvd_refl _) ?_
    rw [List.length_cons, Nat.add_mul, Nat.one_mul]
    omega

/-! ### places, chains, runs -/
inductive Pl where
  | draw (bs : List (Rat × Nat))
  | rew (q : Rat) (x : Nat)
  | fin
  | lose
def Pl.tg : Pl → List Nat
  | .draw bs => bs.map (·.2)
  | .rew _ x => [x]
  | _ => []
/-- where a play goes from the place p, which is the i-th -/
def Pl.ct (i : Nat) : Pl → List (Rat × Nat)
  | .draw bs => bs
  | .rew _ x => [(1, x)]
  | _ => [(1, i)]
/-- all numbers of chances have a den that divides this: the least common multiple of 1 to 18 -/
def M0 : Nat := 12252240
structure WfP (n : Nat) (p : Pl) : Prop where
  drw : ∀ bs, p = .draw bs → bs ≠ [] ∧ bs.length ≤ 6 ∧ (∀ b ∈ bs, b.2 < n ∧ Wd M0 1 b.1) ∧ sm bs (·.1) = 1
  rwd : ∀ q x, p = .rew q x → x < n ∧ Wd M0 4 q
def Wf (ps : List Pl) : Prop := 0 < ps.length ∧ ps.length ≤ 10 ∧ ∀ p ∈ ps, WfP ps.length p
def pAt (ps : List Pl) (i : Nat) : Pl := ps.getD i .fin
def ctA (ps : List Pl) (i : Nat) : List (Rat × Nat) := (pAt ps i).ct i
theorem pAt_mem {ps : List Pl} {i : Nat} (h : i < ps.length) : pAt ps i ∈ ps := by
  unfold pAt
  rw [List.getD_eq_getElem?_getD, List.getElem?_eq_getElem h]
  exact List.getElem_mem h
theorem pAt_get {ps : List Pl} {i : Nat} (h : i < ps.length) : ps[i]? = some (pAt ps i) := by
  unfold pAt
  rw [List.getD_eq_getElem?_getD, List.getElem?_eq_getElem h]
  rfl
/-- the ways from a place, each once, ascending -/
def ways (n : Nat) (p : Pl) : List Nat := (List.range n).filter fun t => p.tg.contains t
theorem ways_mem {n : Nat} {p : Pl} {t : Nat} : t ∈ ways n p ↔ t < n ∧ t ∈ p.tg := by
  unfold ways
  rw [List.mem_filter, List.mem_range, List.contains_iff_mem]
theorem ways_lt {n : Nat} {p : Pl} : (ways n p).Pairwise (· < ·) := List.Pairwise.filter _ List.pairwise_lt_range
theorem ways_nd {n : Nat} {p : Pl} : (ways n p).Nodup := ways_lt.imp fun h => Nat.ne_of_lt h
theorem ways_len {n : Nat} {p : Pl} : (ways n p).length ≤ n := by
  have h := List.length_filter_le (fun t => p.tg.contains t) (List.range n)
  rw [List.length_range] at h
  exact h
theorem tg_lt {n : Nat} {p : Pl} (h : WfP n p) {t : Nat} (ht : t ∈ p.tg) : t < n := by
  cases p with
  | draw bs =>
    obtain ⟨b, hb, rfl⟩ := List.mem_map.mp (show t ∈ bs.map (·.2) from ht)
    exact ((h.drw bs rfl).2.2.1 b hb).1
  | rew q x =>
    rw [List.mem_singleton.mp (show t ∈ [x] from ht)]
    exact (h.rwd q x rfl).1
  | fin => cases ht
  | lose => cases ht
theorem ways_empty {n : Nat} {p : Pl} (h : WfP n p) : ways n p = [] ↔ p.tg = [] := by
  constructor
  · intro e
    cases q : p.tg with
    | nil => rfl
    | cons t r =>
      have ht : t ∈ p.tg := by
        rw [q]
        exact List.mem_cons_self
      have : t ∈ ways n p := ways_mem.mpr ⟨tg_lt h ht, ht⟩
      rw [e] at this
      cases this
  · intro e
    cases q : ways n p with
    | nil => rfl
    | cons t r =>
      have : t ∈ ways n p := by
        rw [q]
        exact List.mem_cons_self
      have := (ways_mem.mp this).2
      rw [e] at this
      cases this
theorem tg_empty {n : Nat} {p : Pl} (h : WfP n p) (e : p.tg = []) : p = .fin ∨ p = .lose := by
  cases p with
  | draw bs =>
    exfalso
    exact (h.drw bs rfl).1 (List.map_eq_nil_iff.mp e)
  | rew q x => cases e
  | fin => exact .inl rfl
  | lose => exact .inr rfl
theorem at_notin {y : Nat} {l : List (Rat × Nat)} (h : y ∉ l.map (·.2)) : at_ y l = 0 := by
  refine Eq.trans (sm_congr fun b hb => if_neg fun e => h ?_) (sm_zero l)
  rw [← e]
  exact List.mem_map.mpr ⟨b, hb, rfl⟩
/-- the chances of the ways are all the chances -/
theorem at_all {n : Nat} {l : List (Rat × Nat)} (h : ∀ b ∈ l, b.2 < n) {ws : List Nat} (hn : ws.Nodup) (hw : ∀ t, t ∈ ws ↔ t < n ∧ t ∈ l.map (·.2)) : sm ws (fun t => at_ t l) = sm l (·.1) := by
  unfold at_
  rw [sm_swap]
  refine sm_congr fun b hb => ?_
  have e : sm ws (fun t => if b.2 = t then b.1 else 0) = sm ws (fun t => if t = b.2 then b.1 else 0) := sm_congr fun t _ => by
    by_cases q : b.2 = t
    · rw [if_pos q, if_pos q.symm]
    · rw [if_neg q, if_neg fun z => q z.symm]
  rw [e, sm_one hn b.2 fun _ => b.1, if_pos ((hw b.2).mpr ⟨h b hb, List.mem_map.mpr ⟨b, hb, rfl⟩⟩)]
theorem ct_tg {i : Nat} {p : Pl} (h : p.tg ≠ []) : (p.ct i).map (·.2) = p.tg := by
  cases p with
  | draw bs => rfl
  | rew q x => rfl
  | fin => exact absurd rfl h
  | lose => exact absurd rfl h
theorem ct_sum {n i : Nat} {p : Pl} (h : WfP n p) : sm (p.ct i) (·.1) = 1 := by
  cases p with
  | draw bs => exact (h.drw bs rfl).2.2.2
  | rew q x => exact Rat.add_zero 1
  | fin => exact Rat.add_zero 1
  | lose => exact Rat.add_zero 1
theorem ct_lt {n i : Nat} {p : Pl} (h : WfP n p) (hi : i < n) : ∀ b ∈ p.ct i, b.2 < n ∧ Wd M0 1 b.1 := by
  cases p with
  | draw bs => exact (h.drw bs rfl).2.2.1
  | rew q x =>
    intro b hb
    rw [List.mem_singleton.mp (show b ∈ [((1 : Rat), x)] from hb)]
    exact ⟨(h.rwd q x rfl).1, Wd.one M0⟩
  | fin =>
    intro b hb
    rw [List.mem_singleton.mp (show b ∈ [((1 : Rat), i)] from hb)]
    exact ⟨hi, Wd.one M0⟩
  | lose =>
    intro b hb
    rw [List.mem_singleton.mp (show b ∈ [((1 : Rat), i)] from hb)]
    exact ⟨hi, Wd.one M0⟩
theorem ct_len {n i : Nat} {p : Pl} (h : WfP n p) : (p.ct i).length ≤ 6 := by
  cases p with
  | draw bs => exact (h.drw bs rfl).2.1
  | rew q x => exact (by decide : 1 ≤ 6)
  | fin => exact (by decide : 1 ≤ 6)
  | lose => exact (by decide : 1 ≤ 6)

abbrev Run := List Nat × Rat
def lastN (r : List Nat) : Nat := r.getLastD 0
theorem lastN_snoc (r : List Nat) (t : Nat) : lastN (r ++ [t]) = t := by
  unfold lastN
  rw [List.getLastD_eq_getLast?, List.getLast?_concat]
  rfl
theorem lastN_one (t : Nat) : lastN [t] = t := rfl
def nx (ps : List Pl) (rc : Run) : List Run :=
  if ways ps.length (pAt ps (lastN rc.1)) = [] then [rc] else (ways ps.length (pAt ps (lastN rc.1))).map fun t => (rc.1 ++ [t], rc.2 * at_ t (ctA ps (lastN rc.1)))
def rn (ps : List Pl) (x : Nat) : Nat → List Run
  | 0 => [([x], 1)]
  | k + 1 => (rn ps x k).flatMap (nx ps)
theorem nx_mem {ps : List Pl} {rc rd : Run} (h : rd ∈ nx ps rc) : rd = rc ∨ ∃ t, t ∈ ways ps.length (pAt ps (lastN rc.1)) ∧ rd = (rc.1 ++ [t], rc.2 * at_ t (ctA ps (lastN rc.1))) := by
  unfold nx at h
  split at h
  · exact .inl (List.mem_singleton.mp h)
  · obtain ⟨t, ht, e⟩ := List.mem_map.mp h
    exact .inr ⟨t, ht, e.symm⟩
theorem rn_last {ps : List Pl} {x : Nat} (hx : x < ps.length) : ∀ (k : Nat) (rc : Run), rc ∈ rn ps x k → rc.1 ≠ [] ∧ (∀ y ∈ rc.1, y < ps.length) ∧ lastN rc.1 < ps.length ∧ rc.1.length ≤ k + 1
  | 0, rc, h => by
    rw [List.mem_singleton.mp (show rc ∈ [([x], (1 : Rat))] from h)]
    exact ⟨List.cons_ne_nil _ _, fun y hy => by rw [List.mem_singleton.mp hy]; exact hx, hx, Nat.le_refl _⟩
  | k + 1, rc, h => by
    obtain ⟨rd, hd, hm⟩ := List.mem_flatMap.mp (show rc ∈ (rn ps x k).flatMap (nx ps) from h)
    obtain ⟨h1, h2, h3, h4⟩ := rn_last hx k rd hd
    rcases nx_mem hm with e | ⟨t, ht, e⟩
    · rw [e]
      exact ⟨h1, h2, h3, Nat.le_succ_of_le h4⟩
    · rw [e]
      have hlt := (ways_mem.mp ht).1
      refine ⟨fun z => ?_, fun y hy => ?_, ?_, ?_⟩
      · cases List.append_eq_nil_iff.mp z with
        | intro _ b => cases b
      · rcases List.mem_append.mp hy with hy | hy
        · exact h2 y hy
        · rw [List.mem_singleton.mp hy]
          exact hlt
      · show lastN (rd.1 ++ [t]) < _
        rw [lastN_snoc]
        exact hlt
      · show (rd.1 ++ [t]).length ≤ _
        rw [List.length_append]
        exact Nat.succ_le_succ h4
theorem nx_len {ps : List Pl} (h : 0 < ps.length) (rc : Run) : (nx ps rc).length ≤ ps.length := by
  unfold nx
  split
  · exact h
  · rw [List.length_map]
    exact ways_len
theorem flat_len {α β : Type} {f : α → List β} {n : Nat} : ∀ {l : List α}, (∀ a ∈ l, (f a).length ≤ n) → (l.flatMap f).length ≤ l.length * n
  | [], _ => Nat.zero_le _
  | a :: l, h => by
    rw [List.flatMap_cons, List.length_append, List.length_cons, Nat.add_mul, Nat.one_mul]
    have h1 := h a List.mem_cons_self
    have h2 := flat_len fun b hb => h b (List.mem_cons_of_mem a hb)
    omega
theorem rn_len {ps : List Pl} (h : Wf ps) (x : Nat) : ∀ k, (rn ps x k).length ≤ 10 ^ k
  | 0 => Nat.le_refl _
  | k + 1 => by
    have ih := rn_len h x k
    have h1 : ((rn ps x k).flatMap (nx ps)).length ≤ (rn ps x k).length * 10 := flat_len fun a _ => Nat.le_trans (nx_len h.1 a) h.2.1
    show ((rn ps x k).flatMap (nx ps)).length ≤ 10 ^ k * 10
    exact Nat.le_trans h1 (Nat.mul_le_mul_right _ ih)

/-! ### the runs in order -/
/-- the first place at which they part tells which is less; neither begins the other -/
def Parts (a b : List Nat) : Prop := ∃ (p s t : List Nat) (x y : Nat), a = p ++ x :: s ∧ b = p ++ y :: t ∧ x < y
theorem Parts.more {a b : List Nat} (h : Parts a b) (u v : List Nat) : Parts (a ++ u) (b ++ v) := by
  obtain ⟨p, s, t, x, y, rfl, rfl, l⟩ := h
  exact ⟨p, s ++ u, t ++ v, x, y, by rw [List.append_assoc, List.cons_append], by rw [List.append_assoc, List.cons_append], l⟩
theorem Parts.ne {a b : List Nat} (h : Parts a b) : a ≠ b := by
  obtain ⟨p, s, t, x, y, rfl, rfl, l⟩ := h
  intro e
  have := List.append_cancel_left e
  have := (List.cons.inj this).1
  omega
theorem nx_more {ps : List Pl} {rc rd : Run} (h : rd ∈ nx ps rc) : ∃ u, rd.1 = rc.1 ++ u := by
  rcases nx_mem h with e | ⟨t, _, e⟩
  · exact ⟨[], by rw [e, List.append_nil]⟩
  · exact ⟨[t], by rw [e]⟩
theorem pairwise_flatMap' {α β : Type} {R : α → α → Prop} {S : β → β → Prop} {f : α → List β} : ∀ {l : List α}, l.Pairwise R → (∀ a ∈ l, (f a).Pairwise S) → (∀ a b, R a b → ∀ x ∈ f a, ∀ y ∈ f b, S x y) → (l.flatMap f).Pairwise S
  | [], _, _, _ => List.Pairwise.nil
  | a :: l, h, hs, hc => by
    rw [List.flatMap_cons, List.pairwise_append]
    refine ⟨hs a List.mem_cons_self, pairwise_flatMap' (List.pairwise_cons.mp h).2 (fun b hb => hs b (List.mem_cons_of_mem _ hb)) hc, fun x hx y hy => ?_⟩
    obtain ⟨b, hb, hy⟩ := List.mem_flatMap.mp hy
    exact hc a b ((List.pairwise_cons.mp h).1 b hb) x hx y hy
theorem rn_parts (ps : List Pl) (x : Nat) : ∀ k, (rn ps x k).Pairwise fun a b => Parts a.1 b.1
  | 0 => List.pairwise_singleton _ _
  | k + 1 => by
    refine pairwise_flatMap' (rn_parts ps x k) (fun rc _ => ?_) fun a b hab c hc d hd => ?_
    · unfold nx
      split
      · exact List.pairwise_singleton _ _
      · refine List.pairwise_map.mpr (ways_lt.imp fun {s t} hst => ⟨rc.1, [], [], s, t, rfl, rfl, hst⟩)
    · obtain ⟨u, eu⟩ := nx_more hc
      obtain ⟨v, ev⟩ := nx_more hd
      rw [eu, ev]
      exact hab.more u v
theorem rn_nd (ps : List Pl) (x k : Nat) : ((rn ps x k).map (·.1)).Nodup :=
  List.pairwise_map.mpr ((rn_parts ps x k).imp fun h => h.ne)
/-- as the lists of ints that Python compares -/
theorem Parts.lt {a b : List Nat} (h : Parts a b) : a.map (fun n : Nat => (n : Int)) < b.map (fun n : Nat => (n : Int)) := by
  obtain ⟨p, s, t, x, y, rfl, rfl, l⟩ := h
  induction p with
  | nil =>
    rw [List.nil_append, List.nil_append, List.map_cons, List.map_cons, List.cons_lt_cons_iff]
    exact .inl (by omega)
  | cons z p ih =>
    rw [List.cons_append, List.cons_append, List.map_cons, List.map_cons, List.cons_lt_cons_iff]
    exact .inr ⟨rfl, ih⟩
theorem rn_sorted (ps : List Pl) (x k : Nat) : ((rn ps x k).map (·.1)).Pairwise fun a b => a.map (fun n : Nat => (n : Int)) ≤ b.map (fun n : Nat => (n : Int)) :=
  List.pairwise_map.mpr ((rn_parts ps x k).imp fun h => List.le_of_lt h.lt)

/-! ### the chance of a run, as the product of its steps -/
def stepC (p : Pl) (t : Nat) : Rat := match p with
  | .draw bs => at_ t bs
  | _ => 1
def chR (ps : List Pl) (r : List Nat) : Nat → Rat
  | 0 => 1
  | i + 1 => chR ps r i * stepC (pAt ps (r.getD i 0)) (r.getD (i + 1) 0)
def chance (ps : List Pl) (r : List Nat) : Rat := chR ps r (r.length - 1)
theorem chR_more (ps : List Pl) (r u : List Nat) : ∀ i, i < r.length → chR ps (r ++ u) i = chR ps r i
  | 0, _ => rfl
  | i + 1, h => by
    have h1 : (r ++ u).getD i 0 = r.getD i 0 := by
      rw [List.getD_eq_getElem?_getD, List.getElem?_append_left (by omega), ← List.getD_eq_getElem?_getD]
    have h2 : (r ++ u).getD (i + 1) 0 = r.getD (i + 1) 0 := by
      rw [List.getD_eq_getElem?_getD, List.getElem?_append_left h, ← List.getD_eq_getElem?_getD]
    show chR ps (r ++ u) i * _ = chR ps r i * _
    rw [chR_more ps r u i (by omega), h1, h2]
theorem lastN_getD {r : List Nat} (h : r ≠ []) : r.getD (r.length - 1) 0 = lastN r := by
  unfold lastN
  rw [List.getLastD_eq_getLast?, List.getLast?_eq_getElem?, List.getD_eq_getElem?_getD]
theorem chance_snoc (ps : List Pl) (r : List Nat) (h : r ≠ []) (t : Nat) : chance ps (r ++ [t]) = chance ps r * stepC (pAt ps (lastN r)) t := by
  have hl : 0 < r.length := List.length_pos_iff.mpr h
  unfold chance
  have e : (r ++ [t]).length - 1 = (r.length - 1) + 1 := by
    rw [List.length_append]
    show r.length + 1 - 1 = _
    omega
  rw [e]
  show chR ps (r ++ [t]) (r.length - 1) * stepC (pAt ps ((r ++ [t]).getD (r.length - 1) 0)) ((r ++ [t]).getD (r.length - 1 + 1) 0) = _
  rw [chR_more ps r [t] _ (by omega)]
  have h1 : (r ++ [t]).getD (r.length - 1) 0 = lastN r := by
    rw [List.getD_eq_getElem?_getD, List.getElem?_append_left (by omega), ← List.getD_eq_getElem?_getD, lastN_getD h]
  have h2 : (r ++ [t]).getD (r.length - 1 + 1) 0 = t := by
    have q : r.length - 1 + 1 = r.length := by omega
    rw [q, List.getD_eq_getElem?_getD, List.getElem?_append_right (Nat.le_refl _), Nat.sub_self]
    rfl
  rw [h1, h2]
theorem stepC_at {ps : List Pl} {l t : Nat} (ht : t ∈ (pAt ps l).tg) : stepC (pAt ps l) t = at_ t (ctA ps l) := by
  unfold ctA
  cases e : pAt ps l with
  | draw bs => rfl
  | rew q x =>
    rw [e] at ht
    rw [List.mem_singleton.mp (show t ∈ [x] from ht)]
    show (1 : Rat) = (if x = x then 1 else 0) + 0
    rw [if_pos rfl, Rat.add_zero]
  | fin => rw [e] at ht; cases ht
  | lose => rw [e] at ht; cases ht
theorem rn_chance {ps : List Pl} {x : Nat} (hx : x < ps.length) : ∀ (k : Nat) (rc : Run), rc ∈ rn ps x k → rc.2 = chance ps rc.1
  | 0, rc, h => by
    rw [List.mem_singleton.mp (show rc ∈ [([x], (1 : Rat))] from h)]
    rfl
  | k + 1, rc, h => by
    obtain ⟨rd, hd, hm⟩ := List.mem_flatMap.mp (show rc ∈ (rn ps x k).flatMap (nx ps) from h)
    have ih := rn_chance hx k rd hd
    rcases nx_mem hm with e | ⟨t, ht, e⟩
    · rw [e]
      exact ih
    · rw [e]
      show rd.2 * _ = _
      rw [chance_snoc ps rd.1 (rn_last hx k rd hd).1 t, ih, stepC_at (ways_mem.mp ht).2]

/-! ### the masses -/
def mops (ps : List Pl) (m : List Rat) : List (Rat × Nat) := (List.range ps.length).flatMap fun i => (ctA ps i).map fun b => (m.getD i 0 * b.1, b.2)
def nil_ (n : Nat) : List Rat := List.replicate n 0
def ms (ps : List Pl) (x : Nat) : Nat → List Rat
  | 0 => (List.range ps.length).map fun y => if y = x then 1 else 0
  | k + 1 => acc (nil_ ps.length) (mops ps (ms ps x k))
def rops (l : List Run) : List (Rat × Nat) := l.map fun rc => (rc.2, lastN rc.1)
theorem ms_len (ps : List Pl) (x : Nat) : ∀ k, (ms ps x k).length = ps.length
  | 0 => by
    show ((List.range ps.length).map _).length = _
    rw [List.length_map, List.length_range]
  | k + 1 => by
    show (acc _ _).length = _
    rw [acc_len]
    exact List.length_replicate
theorem nil_get (n y : Nat) : (nil_ n).getD y 0 = 0 := by
  unfold nil_
  rw [List.getD_eq_getElem?_getD, List.getElem?_replicate]
  split <;> rfl
theorem wf_at {ps : List Pl} (h : Wf ps) {i : Nat} (hi : i < ps.length) : WfP ps.length (pAt ps i) := h.2.2 _ (pAt_mem hi)
/-- one run's longer ones, at a place -/
theorem nx_at {ps : List Pl} (h : Wf ps) {rc : Run} (hl : lastN rc.1 < ps.length) (y : Nat) : at_ y (rops (nx ps rc)) = rc.2 * at_ y (ctA ps (lastN rc.1)) := by
  have hw := wf_at h hl
  unfold nx
  split
  · rename_i e
    have e2 := tg_empty hw ((ways_empty hw).mp e)
    have e3 : ctA ps (lastN rc.1) = [(1, lastN rc.1)] := by
      unfold ctA
      rcases e2 with e2 | e2 <;> rw [e2] <;> rfl
    rw [e3]
    show (if lastN rc.1 = y then rc.2 else 0) + 0 = rc.2 * ((if lastN rc.1 = y then 1 else 0) + 0)
    by_cases q : lastN rc.1 = y
    · rw [if_pos q, if_pos q, Rat.add_zero, Rat.add_zero, Rat.mul_one]
    · rw [if_neg q, if_neg q, Rat.add_zero, Rat.mul_zero]
  · rename_i e
    have hne : (pAt ps (lastN rc.1)).tg ≠ [] := fun z => e ((ways_empty hw).mpr z)
    have e2 : at_ y (rops ((ways ps.length (pAt ps (lastN rc.1))).map fun t => (rc.1 ++ [t], rc.2 * at_ t (ctA ps (lastN rc.1)))))
        = sm (ways ps.length (pAt ps (lastN rc.1))) (fun t => if t = y then rc.2 * at_ t (ctA ps (lastN rc.1)) else 0) := by
      unfold at_ rops
      rw [sm_map, sm_map]
      refine sm_congr fun t _ => ?_
      show (if lastN (rc.1 ++ [t]) = y then _ else _) = _
      rw [lastN_snoc]
    refine e2.trans ?_
    rw [sm_one ways_nd y fun t => rc.2 * at_ t (ctA ps (lastN rc.1))]
    by_cases q : y ∈ ways ps.length (pAt ps (lastN rc.1))
    · rw [if_pos q]
    · rw [if_neg q]
      have z : at_ y (ctA ps (lastN rc.1)) = 0 := at_notin fun hm => q <| by
        unfold ctA at hm
        rw [ct_tg hne] at hm
        exact ways_mem.mpr ⟨tg_lt hw hm, hm⟩
      show (0 : Rat) = rc.2 * at_ y (ctA ps (lastN rc.1))
      rw [z, Rat.mul_zero]
theorem at_rops (l : List Run) (y : Nat) : at_ y (rops l) = sm l fun rc => if lastN rc.1 = y then rc.2 else 0 := by
  unfold at_ rops
  rw [sm_map]
theorem rops_flat (ps : List Pl) (l : List Run) (y : Nat) : at_ y (rops (l.flatMap (nx ps))) = sm l fun rc => at_ y (rops (nx ps rc)) := by
  rw [at_rops, sm_flatMap]
  exact sm_congr fun rc _ => (at_rops _ _).symm
/-- the masses are the chances of the runs that end there -/
theorem ms_rn {ps : List Pl} (h : Wf ps) {x : Nat} (hx : x < ps.length) : ∀ (k y : Nat), y < ps.length → (ms ps x k).getD y 0 = at_ y (rops (rn ps x k))
  | 0, y, hy => by
    have e1 : (ms ps x 0).getD y 0 = if y = x then 1 else 0 := by
      show ((List.range ps.length).map fun y => if y = x then (1 : Rat) else 0).getD y 0 = _
      rw [List.getD_eq_getElem?_getD, List.getElem?_map, List.getElem?_range hy]
      rfl
    rw [e1]
    show (if y = x then (1 : Rat) else 0) = (if x = y then 1 else 0) + 0
    rw [Rat.add_zero]
    by_cases q : y = x
    · rw [if_pos q, if_pos q.symm]
    · rw [if_neg q, if_neg fun z => q z.symm]
  | k + 1, y, hy => by
    show (acc (nil_ ps.length) (mops ps (ms ps x k))).getD y 0 = at_ y (rops ((rn ps x k).flatMap (nx ps)))
    have hn : (nil_ ps.length).length = ps.length := List.length_replicate
    rw [acc_get _ _ y (by rw [hn]; exact hy), nil_get, Rat.zero_add, rops_flat]
    -- the right side
    have e1 : sm (rn ps x k) (fun rc => at_ y (rops (nx ps rc))) = sm (rn ps x k) fun rc => rc.2 * at_ y (ctA ps (lastN rc.1)) := sm_congr fun rc hm => nx_at h (rn_last hx k rc hm).2.2.1 y
    -- the left side
    have e2 : at_ y (mops ps (ms ps x k)) = sm (List.range ps.length) fun i => (ms ps x k).getD i 0 * at_ y (ctA ps i) := by
      unfold mops at_
      rw [sm_flatMap]
      refine sm_congr fun i _ => ?_
      rw [sm_map, ← sm_mul]
      refine sm_congr fun b _ => ?_
      by_cases q : b.2 = y
      · rw [if_pos q, if_pos q]
      · rw [if_neg q, if_neg q, Rat.mul_zero]
    have e3 : sm (List.range ps.length) (fun i => (ms ps x k).getD i 0 * at_ y (ctA ps i)) = sm (List.range ps.length) fun i => sm (rn ps x k) fun rc => if lastN rc.1 = i then rc.2 * at_ y (ctA ps i) else 0 := sm_congr fun i hi => by
      rw [ms_rn h hx k i (List.mem_range.mp hi), at_rops, Rat.mul_comm, ← sm_mul]
      refine sm_congr fun rc _ => ?_
      by_cases q : lastN rc.1 = i
      · rw [if_pos q, if_pos q, Rat.mul_comm]
      · rw [if_neg q, if_neg q, Rat.mul_zero]
    rw [e2, e3, e1, sm_swap]
    refine sm_congr fun rc hm => ?_
    have hl := (rn_last hx k rc hm).2.2.1
    have e4 : sm (List.range ps.length) (fun i => if lastN rc.1 = i then rc.2 * at_ y (ctA ps i) else 0) = sm (List.range ps.length) (fun i => if i = lastN rc.1 then rc.2 * at_ y (ctA ps i) else 0) := sm_congr fun i _ => by
      by_cases q : lastN rc.1 = i
      · rw [if_pos q, if_pos q.symm]
      · rw [if_neg q, if_neg fun z => q z.symm]
    rw [e4, sm_one List.nodup_range (lastN rc.1) fun i => rc.2 * at_ y (ctA ps i), if_pos (List.mem_range.mpr hl)]
/-- the law's own sums over the runs are the masses -/
theorem law_masses {ps : List Pl} (h : Wf ps) {x : Nat} (hx : x < ps.length) (k : Nat) : acc (nil_ ps.length) (rops (rn ps x k)) = ms ps x k := by
  have hn : (nil_ ps.length).length = ps.length := List.length_replicate
  refine ext_getD (by rw [acc_len, ms_len, hn]) fun y hy => ?_
  rw [acc_len, hn] at hy
  rw [acc_get _ _ y (by rw [hn]; exact hy), nil_get, Rat.zero_add, ms_rn h hx k y hy]
/-- the chances of all runs add up to 1 -/
theorem rn_sum {ps : List Pl} (h : Wf ps) {x : Nat} (hx : x < ps.length) : ∀ k, sm (rn ps x k) (·.2) = 1
  | 0 => Rat.add_zero 1
  | k + 1 => by
    show sm ((rn ps x k).flatMap (nx ps)) (·.2) = 1
    rw [sm_flatMap]
    have e : sm (rn ps x k) (fun rc => sm (nx ps rc) (·.2)) = sm (rn ps x k) (·.2) := sm_congr fun rc hm => by
      have hl := (rn_last hx k rc hm).2.2.1
      have hw := wf_at h hl
      unfold nx
      split
      · exact Rat.add_zero _
      · rename_i q
        have hne : (pAt ps (lastN rc.1)).tg ≠ [] := fun z => q ((ways_empty hw).mpr z)
        rw [sm_map]
        show sm _ (fun t => rc.2 * at_ t (ctA ps (lastN rc.1))) = rc.2
        rw [sm_mul]
        have e2 := at_all (l := ctA ps (lastN rc.1)) (n := ps.length) (fun b hb => (ct_lt hw hl b hb).1) (ways_nd (n := ps.length) (p := pAt ps (lastN rc.1))) fun t => by
          unfold ctA
          rw [ct_tg hne]
          exact ways_mem
        have e3 : sm (ctA ps (lastN rc.1)) (·.1) = 1 := ct_sum hw
        rw [e2, e3, Rat.mul_one]
    rw [e]
    exact rn_sum h hx k

/-! ### all these numbers are small enough -/
theorem at_wd {D C : Nat} (hD : D ≠ 0) {l : List (Rat × Nat)} (h : ∀ b ∈ l, Wd D C b.1) (y : Nat) : Wd D (l.length * C) (at_ y l) := by
  induction l with
  | nil =>
    rw [List.length_nil, Nat.zero_mul]
    exact Wd.zero D
  | cons b l ih =>
    have h1 : Wd D C (if b.2 = y then b.1 else 0) := by
      split
      · exact h b List.mem_cons_self
      · exact (Wd.zero D).mono (Nat.dvd_refl _) (Nat.zero_le _)
    have h2 := ih fun q hq => h q (List.mem_cons_of_mem _ hq)
    have h3 := Wd.add hD h1 h2
    refine h3.mono (Nat.dvd_refl _) ?_
    rw [List.length_cons, Nat.add_mul, Nat.one_mul]
    omega
theorem M0_ne : M0 ≠ 0 := by decide
theorem M0_pow (k : Nat) : M0 ^ k ≠ 0 := Nat.pos_iff_ne_zero.mp (Nat.pow_pos (by decide))
theorem ct_at_wd {ps : List Pl} (h : Wf ps) {l : Nat} (hl : l < ps.length) (y : Nat) : Wd M0 6 (at_ y (ctA ps l)) := by
  have hw := wf_at h hl
  have q := at_wd (C := 1) M0_ne (l := ctA ps l) (fun b hb => (ct_lt hw hl b hb).2) y
  refine q.mono (Nat.dvd_refl _) ?_
  have : (ctA ps l).length ≤ 6 := ct_len hw
  omega
theorem rn_wd {ps : List Pl} (h : Wf ps) {x : Nat} (hx : x < ps.length) : ∀ (k : Nat) (rc : Run), rc ∈ rn ps x k → Wd (M0 ^ k) (6 ^ k) rc.2
  | 0, rc, hm => by
    rw [List.mem_singleton.mp (show rc ∈ [([x], (1 : Rat))] from hm)]
    exact Wd.one _
  | k + 1, rc, hm => by
    obtain ⟨rd, hd, hm⟩ := List.mem_flatMap.mp (show rc ∈ (rn ps x k).flatMap (nx ps) from hm)
    have ih := rn_wd h hx k rd hd
    have hl := (rn_last hx k rd hd).2.2.1
    rcases nx_mem hm with e | ⟨t, ht, e⟩
    · rw [e]
      exact ih.mono (Nat.pow_dvd_pow _ (Nat.le_succ _)) (Nat.pow_le_pow_right (by decide) (Nat.le_succ _))
    · rw [e]
      exact (ih.mul (ct_at_wd h hl t)).mono (Nat.dvd_refl _) (Nat.le_refl _)
theorem mops_wd {ps : List Pl} (h : Wf ps) {D B : Nat} {m : List Rat} (hm : ∀ z ∈ m, Wd D B z) : ∀ o ∈ mops ps m, Wd (D * M0) B o.1 := by
  intro o ho
  obtain ⟨i, hi, ho⟩ := List.mem_flatMap.mp ho
  obtain ⟨b, hb, rfl⟩ := List.mem_map.mp ho
  have hw := wf_at h (List.mem_range.mp hi)
  have h1 : Wd D B (m.getD i 0) := by
    rw [List.getD_eq_getElem?_getD]
    cases e : m[i]? with
    | none => exact (Wd.zero D).mono (Nat.dvd_refl _) (Nat.zero_le _)
    | some z => exact hm z (List.mem_of_getElem? e)
  have h2 := h1.mul (ct_lt hw (List.mem_range.mp hi) b hb).2
  exact h2.mono (Nat.dvd_refl _) (by omega)
theorem mops_lt {ps : List Pl} (h : Wf ps) (m : List Rat) : ∀ o ∈ mops ps m, o.2 < ps.length := by
  intro o ho
  obtain ⟨i, hi, ho⟩ := List.mem_flatMap.mp ho
  obtain ⟨b, hb, rfl⟩ := List.mem_map.mp ho
  exact (ct_lt (wf_at h (List.mem_range.mp hi)) (List.mem_range.mp hi) b hb).1
theorem mops_len {ps : List Pl} (h : Wf ps) (m : List Rat) : (mops ps m).length ≤ 60 := by
  have h1 : ((List.range ps.length).flatMap fun i => (ctA ps i).map fun b => (m.getD i 0 * b.1, b.2)).length ≤ (List.range ps.length).length * 6 := flat_len fun i hi => by
    rw [List.length_map]
    exact ct_len (wf_at h (List.mem_range.mp hi))
  rw [List.length_range] at h1
  have h2 := h.2.1
  unfold mops
  omega
theorem ms_wd {ps : List Pl} (h : Wf ps) (x : Nat) : ∀ (k : Nat), ∀ z ∈ ms ps x k, Wd (M0 ^ k) (60 ^ k) z
  | 0, z, hz => by
    obtain ⟨y, _, e⟩ := List.mem_map.mp (show z ∈ (List.range ps.length).map fun y => if y = x then (1 : Rat) else 0 from hz)
    rw [← e]
    split
    · exact Wd.one _
    · exact (Wd.zero _).mono (Nat.dvd_refl _) (by decide)
  | k + 1, z, hz => by
    have h0 : ∀ z ∈ nil_ ps.length, Wd (M0 ^ k * M0) 0 z := fun z hz => by
      rw [List.eq_of_mem_replicate hz]
      exact Wd.zero _
    have h1 := acc_wd (M0_pow (k + 1)) (mops_wd h (ms_wd h x k)) h0 z hz
    refine h1.mono (Nat.dvd_refl _) ?_
    have h2 := Nat.mul_le_mul_right (60 ^ k) (mops_len h (ms ps x k))
    have e : 60 ^ (k + 1) = 60 * 60 ^ k := by rw [Nat.pow_succ, Nat.mul_comm]
    omega
/-- at most six steps: everything with these bounds may be reckoned with -/
theorem Wd.lit6 {q : Rat} {k B : Nat} (hk : k ≤ 6) (hB : B ≤ 2 ^ 100) (h : Wd (M0 ^ k) B q) : Lit q := by
  have h1 : M0 ^ k ≤ M0 ^ 6 := Nat.pow_le_pow_right (by decide) hk
  have h2 : M0 ^ 6 < 2 ^ 200 := by decide
  refine h.lit (M0_pow k) (Nat.lt_trans (Nat.lt_of_le_of_lt h1 h2) (by decide)) ?_
  have h3 : B * M0 ^ k ≤ 2 ^ 100 * M0 ^ 6 := Nat.mul_le_mul hB h1
  exact Nat.lt_of_le_of_lt h3 (by decide)
end K20

/-! K20Kit: rules that the layer lacks: repr of data, sorted of rows, set of a list of ints. -/
namespace K20
open PySem PySem.Spec PyProof.Rows L2

/-! ### repr of data at any depth, where nothing is being shown -/
section
variable {X : Cx}
def rRepr (K : PySem.W.Frag) : List V → Hp → VK → Prop := fun vs H Q =>
  ∃ (a : Addr) (d : PyData), vs = [.ref a] ∧ Dp K H (.ref a) d ∧ d.showable = true ∧ d.hasDict = false ∧ d.depth ≤ 60 ∧ d.shown.length ≤ sizeLine ∧ Q (.str d.shown) H
theorem cr_repr (hg : X.A.guards = some []) (hu : X.A.units + 64 < cLine) : CallR X (.builtin "repr") (rRepr X.K) := by
  intro pins s σ H vs us Q I r h
  obtain ⟨a, d, rfl, hd, h1, h2, h3, h4, q⟩ := h
  rw [Vals.ref1 r]
  obtain ⟨as, R⟩ := Dp.reads I d (.ref a) (.ref a) hd rfl
  exact repr_of_reads' R h1 (fun z => by rw [h2] at z; cases z) hg (by omega) (fun _ _ e => e) (fun h' u tk k => ⟨.str d.shown, H, I.kept k, ⟨u, rfl⟩, q⟩) h4

/-! ### sorted of a list of lists of ints that are in order already -/
def rRows (K : PySem.W.Frag) : List V → Hp → VK → Prop := fun vs H Q =>
  ∃ (a : Addr) (rs : List (Addr × List Int)), vs = [.ref a] ∧ SqL K H a (rs.map fun r => V.ref r.1) ∧ (∀ r ∈ rs, SqL K H r.1 (r.2.map V.int)) ∧ rs.Pairwise (fun p q => p.2 ≤ q.2) ∧
    ∀ p, H p = none → Q (.ref p) (upd H p (.lst (rs.map fun r => V.ref r.1)))
theorem dp_ints {K : PySem.W.Frag} {H : Hp} : ∀ ns : List Int, DpAll K H (ns.map V.int) (ns.map PyData.int)
  | [] => .nil
  | n :: ns => .cons (.int n) (dp_ints ns)
theorem each_rows {K : PySem.W.Frag} {h : Heap} : ∀ {rs : List (Addr × List Int)} {us : List Value}, Vals (rs.map fun r => V.ref r.1) us → PySem.W.EachIs (fun v (b : Addr × List Int) => v = Value.ref b.1 ∧ b ∈ rs) us rs
  | [], _, .nil => .nil
  | r :: rs, _, .cons h t => .cons ⟨h, List.mem_cons_self⟩ ((each_rows (K := K) (h := ‹Heap›) t).mono fun v b ⟨e, m⟩ => ⟨e, List.mem_cons_of_mem _ m⟩)
theorem vals_rows : ∀ {rs : List (Addr × List Int)} {us : List Value}, PySem.W.EachIs (fun v (b : Addr × List Int) => v = Value.ref b.1) us rs → Vals (rs.map fun r => V.ref r.1) us
  | [], _, .nil => .nil
  | r :: rs, _, .cons h t => .cons h (vals_rows t)
theorem cr_sortedRows (hu : X.A.units + 64 < cLine) : CallR X (.builtin "sorted") (rRows X.K) := by
  intro pins s σ H vs us Q I r h
  obtain ⟨a, rs, rfl, hs, hr, hp, q⟩ := h
  rw [Vals.ref1 r]
  obtain ⟨its, rv, pl, hz⟩ := I.list hs
  have e := each_rows (K := X.K) (h := s.heap) rv
  have hlen : rs.length ≤ sizeLine := by
    rw [List.length_map] at hz
    exact hz
  refine PySem.W.sorted_data (bs := rs) (enc := fun b => .list (b.2.map .int)) (R := fun v b => v = Value.ref b.1) pl.isList (e.mono fun _ _ z => z.1) (e.mono fun v b z => ?_) ?_ ?_ hlen (fun b hb => ?_) fun out hl eo => ?_
  · obtain ⟨z1, z2⟩ := z
    rw [z1]
    exact Dp.reads I _ (.ref b.1) _ (.lst (hr b z2) (dp_ints b.2)) rfl
  · exact PySem.W.AllAlike.of fun b b' => by
      show PySem.W.alikeAll (b.2.map .int) (b'.2.map .int) = true
      exact PySem.W.alike_ints _ _
  · exact PySem.W.Sortable.others fun b => ⟨PyData.noConfusion, fun xs => PyData.noConfusion⟩
  · have : (PyData.list (b.2.map .int)).depth = 1 := by
      show PyData.depthAll (b.2.map .int) + 1 = 1
      rw [PySem.W.depth_ints]
    omega
  · have es : rs.mergeSort (PySem.W.dataLe false fun b : Addr × List Int => .list (b.2.map .int)) = rs := by
      rw [PySem.W.dataLe_rows fun b : Addr × List Int => b.2]
      exact List.mergeSort_of_pairwise (hp.imp fun h => decide_eq_true h)
    rw [es] at eo
    obtain ⟨ep, he⟩ := PyProof.Rows.sortedAll_at s.heap its out.toArray
    have hl2 : (rs.map fun r => V.ref r.1).length ≤ sizeLine := hz
    exact ⟨.ref _, upd H (s.heap.objs.size + 1) (.lst (rs.map fun r => V.ref r.1)), I.laid (t' := s.toks) (fun _ _ => PyProof.Rows.sortedAll_old) (Nat.le_succ _) ⟨hl2, out, ep, vals_rows eo, he⟩, rfl, q _ (I.hok.fresh (Nat.le_succ _))⟩
end

/-! ### set(l), l a list of ints -/
section
variable {P : Program} {w : World} {A : Around} {E : Value → Shared → Prop} {s : Shared}
/-- the set that a call of set begins with -/
abbrev bareSet (w : World) : Obj := { cls := .type "set", dict := none, data := .set #[] 0 (.fresh 0 0 (!w.params.followText "set-order")) }
theorem fill_list {S l : Addr} {items : Array Value} {ns : List Int} {R : Value → Shared → Prop} (hh : A.handled = none) (hS : s.heap.get? S = some (bareSet w)) (hl : s.heap.IsList l items) (hi : IntsAre items.toList ns) (hb : ns.length + 1 < scanBound)
    (k : ∀ (h' : Heap) (tk c : Nat), SetR w h' S (fun j => decide (j ∈ ns)) c → c ≤ ns.length → (∀ b o, b ≠ S → s.heap.get? b = some o → h'.get? b = some o) → R .none { s with heap := h', toks := tk }) :
    codeAny (model P w) A (.call (.builtin "set.__init__") ⟨[.ref S, .ref l], []⟩) (wants R E) s := by
  have tS : s.TypeIs (.ref S) "set" := ⟨_, hS, rfl⟩
  obtain ⟨ob, hob, hcls, cap, hdat⟩ := id hl
  obtain ⟨q1, q2, q3, q4⟩ := ob
  simp only at hcls hdat
  subst hcls
  subst hdat
  have many : items.size = ns.length := by
    have z := IntsAre.length hi
    rwa [Array.length_toList] at z
  have apart : l ≠ S := fun z => by
    rw [z, hS] at hob
    exact absurd (Value.type.inj (congrArg Obj.cls (Option.some.inj hob))) (by decide)
  refine codeAny_call_builtin F.called_set.init.plain F.entry_set_init (check_set_init_1 tS ?_)
  have g1 := F.sub_list_set
  have g2 := F.sub_list_frozenset
  have g3 : (Value.type "list" == Value.type "dict") = false := by decide
  unfold Builtin.«set.__init__» noKeywords Builtin.Frozenset.updateFrom
  generalize hit : pyIter = walkOf
  wp_walk
  subst hit
  refine wpAny_pyIter_list hl (wpAny_bind (wpAny_runValue ?_))
  have calm3 : A.in1.in1.handled = none := by simp [hh]
  have ltS := Heap.lt_size hS
  have ltl := Heap.lt_size hob
  refine set_update_ints ((Walks.list calm3 _ l (Nat.ne_of_lt ltl) items).toS) S ?_ ns many hb ?_ items.size 0 _ (Nat.sub_zero _) (Nat.zero_le _) ?_ ?_ ?_
  · intro z
    rcases List.mem_cons.mp z with z | z
    · exact Nat.ne_of_lt ltS z
    · exact apart (List.mem_singleton.mp z).symm
  · intro i v hv
    have hlt : i < ns.length := by
      rw [← many]
      exact (Array.getElem?_eq_some_iff.mp hv).1
    obtain ⟨t, et⟩ := PyProof.Rows.IntsAre.int_at hi i v (by rw [Array.getElem?_toList]; exact hv)
    rw [List.getD_eq_getElem?_getD, List.getElem?_eq_getElem hlt] at et
    exact ⟨ns[i], t, List.getElem?_eq_getElem hlt, et⟩
  · exact ⟨⟨_, Heap.get?_push_size _ rfl, rfl, rfl⟩, hl.push _⟩
  · exact ⟨0, Nat.le_refl 0, setR_new_at (Heap.get?_push_of_some _ hS)⟩
  · intro s2 c mv hc R2
    rw [many] at hc
    obtain ⟨h2, gens2, drawn2, tk2, os2⟩ := s2
    obtain rfl : gens2 = s.gens := mv.gens
    obtain rfl : drawn2 = s.drawn := mv.drawn
    obtain rfl : os2 = s.os := mv.os
    show wpAny _ _ _ _ _ _
    refine wpAny_pure (show wpAny _ _ (ret Value.none) _ _ _ from wpAny_pure (k h2 tk2 c R2 hc fun b o nb e => ?_))
    refine mv.heap b o (fun z => ?_) (Heap.get?_push_of_some _ e)
    rcases List.mem_cons.mp z with z | z
    · exact nb z
    · exact Nat.ne_of_lt (Heap.lt_size e) (List.mem_singleton.mp z)
theorem setOfList {l : Addr} {items : Array Value} {ns : List Int} {Q : Value → Shared → Prop} (hh : A.handled = none) (hl : s.heap.IsList l items) (hi : IntsAre items.toList ns) (hb : ns.length + 1 < scanBound)
    (k : ∀ (h' : Heap) (tk c : Nat), SetR w h' s.heap.objs.size (fun j => decide (j ∈ ns)) c → c ≤ ns.length → (∀ b o, s.heap.get? b = some o → h'.get? b = some o) → Q (.ref s.heap.objs.size) { s with heap := h', toks := tk }) :
    wpAny (model P w) A (call (.type "set") [.ref l]) Q E s := by
  obtain ⟨m1, m2, hm⟩ := F.called_set.mro
  have f1 := F.called_set.made
  have f2 := F.called_set.sub
  have f3 := F.called_set.notType
  have f4 := F.called_set.canCreate
  have f5 := F.typeCall_set_1 (.ref l)
  refine wpAny_call (codeAny_of_tree (show wpAny _ _ (callAny (.type "set") _) _ _ _ from wpAny_pure ⟨Code.quiet_builtin _ (by decide +kernel), codeAny_builtin F.entry_type_call ?_⟩))
  rw [Around.under_plain (weight_type_call_type "set" [.ref l] []) rfl]
  repeat' (first | assumption | wp_step)
  refine codeAny_mono (code_set_led1 (.ref l) (E := E) (Q₁ := fun v s1 => v = .ref s.heap.objs.size ∧ s1 = { s with heap := s.heap.push (bareSet w) }) ⟨rfl, rfl⟩) ?_
  rintro (err | (_ | _ | _ | v)) s1 hv
  all_goals first | exact hv | exact hv.elim | skip
  obtain ⟨rfl, rfl⟩ := hv
  have got : (s.heap.push (bareSet w)).get? s.heap.objs.size = some (bareSet w) := Heap.get?_push_size _ rfl
  have tS : Shared.TypeIs { s with heap := s.heap.push (bareSet w) } (.ref s.heap.objs.size) "set" := ⟨_, got, rfl⟩
  have f6 := F.called_set.init.lookup
  have f7 := F.called_set.init.bind (.ref s.heap.objs.size)
  repeat' (first | assumption | wp_step)
  refine codeAny_mono (fill_list (E := E) (P := P) (w := w) (A := A.in1) (s := { s with heap := s.heap.push (bareSet w) }) (R := fun v s2 => v = .none ∧ ∃ (h' : Heap) (tk c : Nat), s2 = { s with heap := h', toks := tk } ∧ SetR w h' s.heap.objs.size (fun j => decide (j ∈ ns)) c ∧ c ≤ ns.length ∧ ∀ b o, s.heap.get? b = some o → h'.get? b = some o)
    (show A.in1.handled = none from hh) got (hl.push _) hi hb fun h' tk c R2 hc kp => ⟨rfl, h', tk, c, rfl, R2, hc, fun b o e => kp b o (Nat.ne_of_lt (Heap.lt_size e)) (Heap.get?_push_of_some _ e)⟩) ?_
  rintro (err | (_ | _ | _ | v)) s2 hv
  all_goals first | exact hv | exact hv.elim | skip
  obtain ⟨rfl, h', tk, c, rfl, R2, hc, kp⟩ := hv
  repeat' (first | assumption | wp_step)
  exact k h' tk c R2 hc kp
end
section
variable {X : Cx}
def rSetLi (K : PySem.W.Frag) (w : World) : List V → Hp → VK → Prop := fun vs H Q =>
  ∃ (l : Addr) (ns : List Int), vs = [.ref l] ∧ SqL K H l (ns.map V.int) ∧ ns.length ≤ 1000 ∧ ∀ p c, H p = none → c ≤ ns.length → Q (.ref p) (upd H p (SetO w p (fun j => decide (j ∈ ns)) c))
theorem cr_setL (hc : X.calm = true) : CallR X (.type "set") (rSetLi X.K X.w) := by
  intro pins s σ H vs us Q I r h
  obtain ⟨l, ns, rfl, hs, hn, q⟩ := h
  rw [Vals.ref1 r]
  obtain ⟨its, rv, pl, hz⟩ := I.list hs
  have hi : IntsAre its.toArray.toList ns := ints_of_vals rv
  refine setOfList (I.ok.hd hc) pl.isList hi (by unfold scanBound; omega) fun h' tk c R2 hcn kp => ?_
  exact ⟨.ref _, upd H s.heap.objs.size (SetO X.w s.heap.objs.size (fun j => decide (j ∈ ns)) c), I.laid kp (Nat.le_refl _) (setO_new R2), rfl, q _ c (I.hok.fresh (Nat.le_refl _)) hcn⟩
end
end K20

/-! K20Num: the text by places; numbers. -/
namespace K20
open PySem PySem.Spec PyProof.Rows L2

/-! ### the text -/
def topS (i : Nat) : Stmt := PySem.Challenge.pw_oddkeep_k20_whole_runs_of_steps.main.body.getD i (.Pass ⟨0, 0, 0, 0⟩)
abbrev sNumber : Stmt := topS 4
abbrev sPlus : Stmt := topS 5
abbrev sTimes : Stmt := topS 6
abbrev sTargets : Stmt := topS 8
abbrev sChances : Stmt := topS 10
abbrev sMasses : Stmt := topS 11
abbrev sStepCh : Stmt := topS 13
abbrev sRunsOf : Stmt := topS 14
abbrev sDraw : Stmt := topS 16
abbrev sLNumber : Stmt := topS 17
abbrev sLPlus : Stmt := topS 18
abbrev sLTimes : Stmt := topS 19
abbrev sIsNum : Stmt := topS 23
abbrev sShares : Stmt := topS 25
abbrev sPlace : Stmt := topS 26
abbrev sGame : Stmt := topS 27
abbrev sLTargets : Stmt := topS 28
abbrev sLStep : Stmt := topS 29
abbrev sLRuns : Stmt := topS 30
abbrev sLChance : Stmt := topS 31
abbrev sLaw : Stmt := topS 32

/-! ### numbers in the heap -/
def nuL (q : Rat) : List V := [.int q.num, .int (q.den : Int)]
def Nu (K : PySem.W.Frag) (H : Hp) (v : V) (q : Rat) : Prop := ∃ p, v = .ref p ∧ SqT K H p (nuL q)
theorem same_upd {H : Hp} {p : Addr} {o : HO} (h : H p = none) : Same H (upd H p o) := fun b x e => by
  rw [upd_ne (ne_of_none e h)]
  exact e
theorem Same.seqT {K : PySem.W.Frag} {H H' : Hp} {a : Addr} {xs : List V} (e : Same H H') (h : SqT K H a xs) : SqT K H' a xs := by
  rcases h with (h | ⟨o, h⟩) | h
  · exact .inl (.inl (e _ _ h))
  · exact .inl (.inr ⟨o, e _ _ h⟩)
  · exact .inr h
theorem Nu.same {K : PySem.W.Frag} {H H' : Hp} {v : V} {q : Rat} (h : Nu K H v q) (e : Same H H') : Nu K H' v q := by
  obtain ⟨p, rfl, h⟩ := h
  exact ⟨p, rfl, Same.seqT e h⟩
theorem Nu.new {K : PySem.W.Frag} {H : Hp} {p : Addr} {q : Rat} : Nu K (upd H p (.tup (nuL q))) (.ref p) q := ⟨p, rfl, .inl (.inl upd_same)⟩
theorem natAbs_mul_lt {i j : Int} {a b c : Nat} (hi : i.natAbs < 2 ^ a) (hj : j.natAbs < 2 ^ b) (h : a + b ≤ c) : (i * j).natAbs < 2 ^ c := by
  rw [Int.natAbs_mul]
  have h1 : i.natAbs * j.natAbs < 2 ^ a * 2 ^ b := Nat.mul_lt_mul'' hi hj
  rw [← Nat.pow_add] at h1
  exact Nat.lt_of_lt_of_le h1 (Nat.pow_le_pow_right (by decide) h)
theorem den_lt {q : Rat} (h : Lit q) : ((q.den : Int)).natAbs < 2 ^ 400 := by
  rw [Int.natAbs_natCast]
  exact h.2
theorem lit_mul {i j : Int} (hi : i.natAbs < 2 ^ 400) (hj : j.natAbs < 2 ^ 400) : CMulW i j := wide_mul hi hj (by decide) (by decide) (by decide)
theorem den_mul_pos (p q : Rat) : (0 : Int) < (p.den : Int) * q.den := Int.mul_pos (den_pos p) (den_pos q)
theorem den_mul_lt {p q : Rat} (hp : Lit p) (hq : Lit q) : ((p.den : Int) * q.den).natAbs < 2 ^ 900 := natAbs_mul_lt (den_lt hp) (den_lt hq) (by decide)
theorem div_ok {n d : Int} {b : Nat} (hd : 0 < d) (h : d.natAbs < 2 ^ b) (h0 : 0 < b) (hb : b ≤ 9000) (m : Int) : CDivW m (gc n d) :=
  wide_div (gc_pos hd) (Nat.lt_of_le_of_lt (gc_le hd) h) h0 hb

/-! ### promises -/
/-- n over d, d above 0: the pair in lowest terms -/
def spNum : Sp := fun vs H Q _ => ∃ n d : Int, vs = [.int n, .int d] ∧ 0 < d ∧ d.natAbs < 2 ^ 900 ∧ ∀ p, H p = none → Q (.ref p) (upd H p (.tup [.int (n / gc n d), .int (d / gc n d)]))
def spPlus (K : PySem.W.Frag) : Sp := fun vs H Q _ => ∃ (va vb : V) (p q : Rat), vs = [va, vb] ∧ Nu K H va p ∧ Nu K H vb q ∧ Lit p ∧ Lit q ∧ ∀ t, H t = none → Q (.ref t) (upd H t (.tup (nuL (p + q))))
def spTimes (K : PySem.W.Frag) : Sp := fun vs H Q _ => ∃ (va vb : V) (p q : Rat), vs = [va, vb] ∧ Nu K H va p ∧ Nu K H vb q ∧ Lit p ∧ Lit q ∧ ∀ t, H t = none → Q (.ref t) (upd H t (.tup (nuL (p * q))))
theorem pair_add (p q : Rat) : [V.int ((p.num * q.den + q.num * p.den) / gc (p.num * q.den + q.num * p.den) ((p.den : Int) * q.den)), V.int (((p.den : Int) * q.den) / gc (p.num * q.den + q.num * p.den) ((p.den : Int) * q.den))] = nuL (p + q) := by
  unfold nuL
  rw [(add_pair p q).1, (add_pair p q).2]
theorem pair_mul (p q : Rat) : [V.int ((p.num * q.num) / gc (p.num * q.num) ((p.den : Int) * q.den)), V.int (((p.den : Int) * q.den) / gc (p.num * q.num) ((p.den : Int) * q.den))] = nuL (p * q) := by
  unfold nuL
  rw [(mul_pair p q).1, (mul_pair p q).2]

section
variable {P : Program} {w : World} {K : PySem.W.Frag} {mg : Str → Option Value} {base : Heap}

/-! ### the program's numbers -/
theorem scNumber : FnScope ["n", "d", "common"] ["n", "d"] (defScope sNumber) := ⟨rfl, rfl, rfl, by decide +kernel, rfl, by decide +kernel, by decide +kernel⟩
theorem ok_number {f : Addr} {fd : FuncData} (F : Fun K "number" "number" sNumber f fd) (gG : mg "gcd" = some (.builtin "math.gcd")) : FnOk P w K mg base CX0 1 f fd ["n", "d"] spNum := by
  refine F.ok scNumber (fun vs H Q E h => ?_) (fun cdv A outer s H vs Q E hr h => ?_)
  · obtain ⟨n, d, rfl, _⟩ := h
    rfl
  · obtain ⟨n, d, rfl, hd, hb, q⟩ := h
    refine ⟨_, pss_cons (ps_if (pt_cmpR op_lt (pv 1) pe_int (nomark _)) (pss_one (ps_par (i := 0) (j := 1) rfl scNumber.nd rfl rfl (by decide) rfl rfl (pa_cons (pe_un un_neg (pv 0)) (pa_cons (pe_un un_neg (pv 1)) pa_nil)) (by rfl))) pss_nil)
      (pss_cons (ps_set (i := 2) scNumber.nd rfl (.inl rfl) (pe_callBfun cr_gcd (by rfl) gG (pa_cons (pv 0) (pa_cons (pv 1) pa_nil))))
      (pss_one (ps_ret (pe_tup (pa_cons (pe_op op_fdivW (pv 0) (pv 2)) (pa_cons (pe_op op_fdivW (pv 1) (pv 2)) pa_nil)))))), ?_⟩
    refine ⟨_, rfl, _, _, rfl, rfl, _, rfl, ?_⟩
    rw [decide_eq_false (show ¬ d < 0 by omega)]
    refine iteF ?_
    refine ⟨_, rfl, _, rfl, n, d, rfl, ?_⟩
    refine ⟨_, rfl, _, rfl, n, gc n d, rfl, rfl, div_ok hd hb (by decide) (by decide) n, _, rfl, _, rfl, d, gc n d, rfl, rfl, div_ok hd hb (by decide) (by decide) d, (by show 2 ≤ sizeLine; decide), ?_⟩
    exact q
theorem scPlus : FnScope ["a", "b"] ["a", "b"] (defScope sPlus) := ⟨rfl, rfl, rfl, by decide +kernel, rfl, by decide +kernel, by decide +kernel⟩
theorem ok_plus {f fN : Addr} {fd fdN : FuncData} (F : Fun K "plus" "plus" sPlus f fd) (FN : Fun K "number" "number" sNumber fN fdN) (bN : Binds K fdN ["n", "d"] []) (gN : mg "number" = some (.ref fN)) (GN : FnOk P w K mg base CX0 1 fN fdN ["n", "d"] spNum) :
    FnOk P w K mg base CX0 2 f fd ["a", "b"] (spPlus K) := by
  refine F.ok scPlus (fun vs H Q E h => ?_) (fun cdv A outer s H vs Q E hr h => ?_)
  · obtain ⟨va, vb, p, q, rfl, _⟩ := h
    rfl
  · obtain ⟨va, vb, p, q, rfl, ⟨a, rfl, ha⟩, ⟨b, rfl, hb⟩, lp, lq, k⟩ := h
    refine ⟨_, pss_one (ps_ret (pe_call GN hr (by rfl) gN FN.kp bN .nil pass0 (pa_cons
      (pe_op op_add (pe_op op_mulW (pe_ix ix_tup (pv 0) pe_int (fun _ _ => rfl)) (pe_ix ix_tup (pv 1) pe_int (fun _ _ => rfl))) (pe_op op_mulW (pe_ix ix_tup (pv 1) pe_int (fun _ _ => rfl)) (pe_ix ix_tup (pv 0) pe_int (fun _ _ => rfl))))
      (pa_cons (pe_op op_mulW (pe_ix ix_tup (pv 0) pe_int (fun _ _ => rfl)) (pe_ix ix_tup (pv 1) pe_int (fun _ _ => rfl))) pa_nil)))), ?_⟩
    refine ⟨_, rfl, a, _, 0, .int p.num, rfl, rfl, ha, atI_nat (j := 0) rfl, _, rfl, b, _, 1, .int q.den, rfl, rfl, hb, atI_nat (j := 1) rfl, _, _, rfl, rfl, lit_mul lp.1 (den_lt lq), ?_⟩
    refine ⟨_, rfl, b, _, 0, .int q.num, rfl, rfl, hb, atI_nat (j := 0) rfl, _, rfl, a, _, 1, .int p.den, rfl, rfl, ha, atI_nat (j := 1) rfl, _, _, rfl, rfl, lit_mul lq.1 (den_lt lp), _, _, rfl, rfl, ?_⟩
    refine ⟨_, rfl, a, _, 1, .int p.den, rfl, rfl, ha, atI_nat (j := 1) rfl, _, rfl, b, _, 1, .int q.den, rfl, rfl, hb, atI_nat (j := 1) rfl, _, _, rfl, rfl, lit_mul (den_lt lp) (den_lt lq), ?_⟩
    refine ⟨_, _, rfl, den_mul_pos p q, den_mul_lt lp lq, fun t ht => ?_⟩
    rw [pair_add]
    exact k t ht
theorem scTimes : FnScope ["a", "b"] ["a", "b"] (defScope sTimes) := ⟨rfl, rfl, rfl, by decide +kernel, rfl, by decide +kernel, by decide +kernel⟩
theorem ok_times {f fN : Addr} {fd fdN : FuncData} (F : Fun K "times" "times" sTimes f fd) (FN : Fun K "number" "number" sNumber fN fdN) (bN : Binds K fdN ["n", "d"] []) (gN : mg "number" = some (.ref fN)) (GN : FnOk P w K mg base CX0 1 fN fdN ["n", "d"] spNum) :
    FnOk P w K mg base CX0 2 f fd ["a", "b"] (spTimes K) := by
  refine F.ok scTimes (fun vs H Q E h => ?_) (fun cdv A outer s H vs Q E hr h => ?_)
  · obtain ⟨va, vb, p, q, rfl, _⟩ := h
    rfl
  · obtain ⟨va, vb, p, q, rfl, ⟨a, rfl, ha⟩, ⟨b, rfl, hb⟩, lp, lq, k⟩ := h
    refine ⟨_, pss_one (ps_ret (pe_call GN hr (by rfl) gN FN.kp bN .nil pass0 (pa_cons
      (pe_op op_mulW (pe_ix ix_tup (pv 0) pe_int (fun _ _ => rfl)) (pe_ix ix_tup (pv 1) pe_int (fun _ _ => rfl)))
      (pa_cons (pe_op op_mulW (pe_ix ix_tup (pv 0) pe_int (fun _ _ => rfl)) (pe_ix ix_tup (pv 1) pe_int (fun _ _ => rfl))) pa_nil)))), ?_⟩
    refine ⟨_, rfl, a, _, 0, .int p.num, rfl, rfl, ha, atI_nat (j := 0) rfl, _, rfl, b, _, 0, .int q.num, rfl, rfl, hb, atI_nat (j := 0) rfl, _, _, rfl, rfl, lit_mul lp.1 lq.1, ?_⟩
    refine ⟨_, rfl, a, _, 1, .int p.den, rfl, rfl, ha, atI_nat (j := 1) rfl, _, rfl, b, _, 1, .int q.den, rfl, rfl, hb, atI_nat (j := 1) rfl, _, _, rfl, rfl, lit_mul (den_lt lp) (den_lt lq), ?_⟩
    refine ⟨_, _, rfl, den_mul_pos p q, den_mul_lt lp lq, fun t ht => ?_⟩
    rw [pair_mul]
    exact k t ht

/-! ### the law's own -/
theorem scLNumber : FnScope ["_law_n", "_law_d", "_law_one", "_law_other"] ["_law_n", "_law_d"] (defScope sLNumber) := ⟨rfl, rfl, rfl, by decide +kernel, rfl, by decide +kernel, by decide +kernel⟩
theorem gcd_step {a b : Int} (hb : 0 < b) (ha : 0 ≤ a) : Nat.gcd b.natAbs (a % b).natAbs = Nat.gcd a.natAbs b.natAbs := by
  have e : (a % b).natAbs = a.natAbs % b.natAbs := by
    obtain ⟨x, rfl⟩ := Int.eq_ofNat_of_zero_le ha
    obtain ⟨y, rfl⟩ := Int.eq_ofNat_of_zero_le (Int.le_of_lt hb)
    rfl
  rw [e, Nat.gcd_comm, ← Nat.gcd_rec, Nat.gcd_comm]
theorem ok_lnumber {f : Addr} {fd : FuncData} (F : Fun K "_law_number" "_law_number" sLNumber f fd) (mA : mg "abs" = none) (mI : mg "int" = none) : FnOk P w K mg base CX0 1 f fd ["_law_n", "_law_d"] spNum := by
  refine F.ok scLNumber (fun vs H Q E h => ?_) (fun cdv A outer s H vs Q E hr h => ?_)
  · obtain ⟨n, d, rfl, _⟩ := h
    rfl
  · obtain ⟨n, d, rfl, hd, hb, q⟩ := h
    refine ⟨_, pss_cons (ps_if (pt_cmpR op_lt (pv 1) pe_int (nomark _)) (pss_one (ps_par (i := 0) (j := 1) rfl scLNumber.nd rfl rfl (by decide) rfl rfl (pa_cons (pe_op op_sub pe_int (pv 0)) (pa_cons (pe_op op_sub pe_int (pv 1)) pa_nil)) (by rfl))) pss_nil)
      (pss_cons (ps_par (i := 2) (j := 3) rfl scLNumber.nd rfl rfl (by decide) rfl rfl (pa_cons (pe_callB call_abs (by rfl) mA (by decide +kernel) (pa_cons (pv 0) pa_nil)) (pa_cons (pv 1) pa_nil)) (by rfl))
      (pss_cons (ps_while PassesOwn.never (pt_cmpR op_ne (pv 3) pe_int (nomark _)) (pss_one (ps_par (i := 2) (j := 3) rfl scLNumber.nd rfl rfl (by decide) rfl rfl
          (pa_cons (pv 3) (pa_cons (pe_op op_mod (pe_callTy call_int1 (by rfl) mI (by decide +kernel) (pa_cons (pv 2) pa_nil)) (pv 3)) pa_nil)) (by rfl))))
      (pss_one (ps_ret (pe_tup (pa_cons (pe_op op_fdivW (pv 0) (pv 2)) (pa_cons (pe_op op_fdivW (pv 1) (pv 2)) pa_nil))))))), ?_⟩
    refine ⟨_, rfl, _, _, rfl, rfl, _, rfl, ?_⟩
    rw [decide_eq_false (show ¬ d < 0 by omega)]
    refine iteF ?_
    refine ⟨_, rfl, _, rfl, _, rfl, _, _, rfl, ?_⟩
    refine while_by (fun σ H' => ∃ a b : Int, σ = [some (.int n), some (.int d), some (.int a), some (.int b)] ∧ H' = H ∧ 0 ≤ a ∧ 0 ≤ b ∧ Nat.gcd a.natAbs b.natAbs = Nat.gcd n.natAbs d.natAbs)
      (fun σ _ => match σ with
        | [_, _, _, some (.int b)] => b.toNat
        | _ => 0) ?_ ?_ ?_
    · refine ⟨if n < 0 then -n else n, d, rfl, rfl, ?_, Int.le_of_lt hd, ?_⟩
      · split <;> omega
      · split
        · rw [Int.natAbs_neg]
        · rfl
    · rintro σ H' ⟨a, b, rfl, rfl, ha, hb0, hg⟩
      refine ⟨_, rfl, rfl, _, rfl, ?_⟩
      by_cases e : b = 0
      · subst e
        refine iteNS rfl ?_
        have ea : a = gc n d := by
          show a = ((Nat.gcd n.natAbs d.natAbs : Nat) : Int)
          rw [← hg]
          show a = ((Nat.gcd a.natAbs (0 : Int).natAbs : Nat) : Int)
          rw [Int.natAbs_zero, Nat.gcd_zero_right]
          omega
        subst ea
        refine ⟨_, rfl, _, rfl, n, gc n d, rfl, rfl, div_ok hd hb (by decide) (by decide) n, _, rfl, _, rfl, d, gc n d, rfl, rfl, div_ok hd hb (by decide) (by decide) d, (by show 2 ≤ sizeLine; decide), ?_⟩
        exact q
      · have e2 : decide (V.int b = V.int 0) = false := decide_eq_false fun z => e (V.int.inj z)
        rw [e2]
        refine iteT ?_
        have hbp : 0 < b := by omega
        refine ⟨_, rfl, _, rfl, .inl ⟨_, rfl, _, rfl, a, b, rfl, rfl, hbp, _, _, rfl, ⟨b, a % b, rfl, rfl, hb0, Int.emod_nonneg _ e, ?_⟩, ?_⟩⟩
        · rw [gcd_step hbp ha]
          exact hg
        · show (a % b).toNat < b.toNat
          have := Int.emod_lt_of_pos a hbp
          omega
    · rintro σ H' Q1 Q2 m ⟨v, h1, h2, k, h3, h4⟩
      exact ⟨v, h1, h2, k, h3, m _ _ h4⟩
theorem scLPlus : FnScope ["_law_a", "_law_b"] ["_law_a", "_law_b"] (defScope sLPlus) := ⟨rfl, rfl, rfl, by decide +kernel, rfl, by decide +kernel, by decide +kernel⟩
theorem ok_lplus {f fN : Addr} {fd fdN : FuncData} (F : Fun K "_law_plus" "_law_plus" sLPlus f fd) (FN : Fun K "_law_number" "_law_number" sLNumber fN fdN) (bN : Binds K fdN ["_law_n", "_law_d"] []) (gN : mg "_law_number" = some (.ref fN)) (GN : FnOk P w K mg base CX0 1 fN fdN ["_law_n", "_law_d"] spNum) :
    FnOk P w K mg base CX0 2 f fd ["_law_a", "_law_b"] (spPlus K) := by
  refine F.ok scLPlus (fun vs H Q E h => ?_) (fun cdv A outer s H vs Q E hr h => ?_)
  · obtain ⟨va, vb, p, q, rfl, _⟩ := h
    rfl
  · obtain ⟨va, vb, p, q, rfl, ⟨a, rfl, ha⟩, ⟨b, rfl, hb⟩, lp, lq, k⟩ := h
    refine ⟨_, pss_one (ps_ret (pe_call GN hr (by rfl) gN FN.kp bN .nil pass0 (pa_cons
      (pe_op op_add (pe_op op_mulW (pe_ix ix_tup (pv 0) pe_int (fun _ _ => rfl)) (pe_ix ix_tup (pv 1) pe_int (fun _ _ => rfl))) (pe_op op_mulW (pe_ix ix_tup (pv 1) pe_int (fun _ _ => rfl)) (pe_ix ix_tup (pv 0) pe_int (fun _ _ => rfl))))
      (pa_cons (pe_op op_mulW (pe_ix ix_tup (pv 0) pe_int (fun _ _ => rfl)) (pe_ix ix_tup (pv 1) pe_int (fun _ _ => rfl))) pa_nil)))), ?_⟩
    refine ⟨_, rfl, a, _, 0, .int p.num, rfl, rfl, ha, atI_nat (j := 0) rfl, _, rfl, b, _, 1, .int q.den, rfl, rfl, hb, atI_nat (j := 1) rfl, _, _, rfl, rfl, lit_mul lp.1 (den_lt lq), ?_⟩
    refine ⟨_, rfl, b, _, 0, .int q.num, rfl, rfl, hb, atI_nat (j := 0) rfl, _, rfl, a, _, 1, .int p.den, rfl, rfl, ha, atI_nat (j := 1) rfl, _, _, rfl, rfl, lit_mul lq.1 (den_lt lp), _, _, rfl, rfl, ?_⟩
    refine ⟨_, rfl, a, _, 1, .int p.den, rfl, rfl, ha, atI_nat (j := 1) rfl, _, rfl, b, _, 1, .int q.den, rfl, rfl, hb, atI_nat (j := 1) rfl, _, _, rfl, rfl, lit_mul (den_lt lp) (den_lt lq), ?_⟩
    refine ⟨_, _, rfl, den_mul_pos p q, den_mul_lt lp lq, fun t ht => ?_⟩
    rw [pair_add]
    exact k t ht
theorem scLTimes : FnScope ["_law_a", "_law_b"] ["_law_a", "_law_b"] (defScope sLTimes) := ⟨rfl, rfl, rfl, by decide +kernel, rfl, by decide +kernel, by decide +kernel⟩
theorem ok_ltimes {f fN : Addr} {fd fdN : FuncData} (F : Fun K "_law_times" "_law_times" sLTimes f fd) (FN : Fun K "_law_number" "_law_number" sLNumber fN fdN) (bN : Binds K fdN ["_law_n", "_law_d"] []) (gN : mg "_law_number" = some (.ref fN)) (GN : FnOk P w K mg base CX0 1 fN fdN ["_law_n", "_law_d"] spNum) :
    FnOk P w K mg base CX0 2 f fd ["_law_a", "_law_b"] (spTimes K) := by
  refine F.ok scLTimes (fun vs H Q E h => ?_) (fun cdv A outer s H vs Q E hr h => ?_)
  · obtain ⟨va, vb, p, q, rfl, _⟩ := h
    rfl
  · obtain ⟨va, vb, p, q, rfl, ⟨a, rfl, ha⟩, ⟨b, rfl, hb⟩, lp, lq, k⟩ := h
    refine ⟨_, pss_one (ps_ret (pe_call GN hr (by rfl) gN FN.kp bN .nil pass0 (pa_cons
      (pe_op op_mulW (pe_ix ix_tup (pv 0) pe_int (fun _ _ => rfl)) (pe_ix ix_tup (pv 1) pe_int (fun _ _ => rfl)))
      (pa_cons (pe_op op_mulW (pe_ix ix_tup (pv 0) pe_int (fun _ _ => rfl)) (pe_ix ix_tup (pv 1) pe_int (fun _ _ => rfl))) pa_nil)))), ?_⟩
    refine ⟨_, rfl, a, _, 0, .int p.num, rfl, rfl, ha, atI_nat (j := 0) rfl, _, rfl, b, _, 0, .int q.num, rfl, rfl, hb, atI_nat (j := 0) rfl, _, _, rfl, rfl, lit_mul lp.1 lq.1, ?_⟩
    refine ⟨_, rfl, a, _, 1, .int p.den, rfl, rfl, ha, atI_nat (j := 1) rfl, _, rfl, b, _, 1, .int q.den, rfl, rfl, hb, atI_nat (j := 1) rfl, _, _, rfl, rfl, lit_mul (den_lt lp) (den_lt lq), ?_⟩
    refine ⟨_, _, rfl, den_mul_pos p q, den_mul_lt lp lq, fun t ht => ?_⟩
    rw [pair_mul]
    exact k t ht
end
end K20

/-! K20Data: chains as they lie in the heap. -/
namespace K20
open PySem PySem.Spec PyProof.Rows L2

def nuD (q : Rat) : PyData := .tuple [.int q.num, .int (q.den : Int)]
def brD (b : Rat × Nat) : PyData := .tuple [nuD b.1, .int (b.2 : Int)]
def plD : Pl → PyData
  | .draw bs => .tuple [.str "draw", .list (bs.map brD)]
  | .rew q x => .tuple [.str "reward", nuD q, .int (x : Int)]
  | .fin => .tuple [.str "finish"]
  | .lose => .tuple [.str "lose"]
def chD (ps : List Pl) : PyData := .list (ps.map plD)
abbrev natV (n : Nat) : V := .int (n : Int)

theorem iteY {c : Prop} [Decidable c] {A B : Prop} (hc : c) (h : A) : if decide c = true then A else B := by
  rw [decide_eq_true hc]
  exact iteT h
theorem iteN {c : Prop} [Decidable c] {A B : Prop} (hc : ¬ c) (h : B) : if decide c = true then A else B := by
  rw [decide_eq_false hc]
  exact iteF h

section
variable {K : PySem.W.Frag} {H H' : Hp} {v : V} {vs : List V}
mutual
theorem dp_same (e : Same H H') : ∀ (d : PyData) (v : V), Dp K H v d → Dp K H' v d
  | .none, _, h => by
    cases h
    exact .non
  | .bool b, _, h => by
    cases h
    exact .bl b
  | .int i, _, h => by
    cases h
    exact .int i
  | .str x, _, h => by
    cases h
    exact .str x
  | .list ds, _, h => by
    cases h with
    | lst hs ha => exact .lst (e.seq hs) (dpAll_same e ds _ ha)
  | .tuple ds, _, h => by
    cases h with
    | tup hs ha => exact .tup (Same.seqT e hs) (dpAll_same e ds _ ha)
  | .dict _, _, h => by cases h
theorem dpAll_same (e : Same H H') : ∀ (ds : List PyData) (vs : List V), DpAll K H vs ds → DpAll K H' vs ds
  | [], _, h => by
    cases h
    exact .nil
  | d :: ds, _, h => by
    cases h with
    | cons h1 h2 => exact .cons (dp_same e d _ h1) (dpAll_same e ds _ h2)
end
theorem dp_tup {ds : List PyData} (h : Dp K H v (.tuple ds)) : ∃ a xs, v = .ref a ∧ SqT K H a xs ∧ DpAll K H xs ds := by
  cases h with
  | tup hs ha => exact ⟨_, _, rfl, hs, ha⟩
theorem dp_lst {ds : List PyData} (h : Dp K H v (.list ds)) : ∃ a xs, v = .ref a ∧ SqL K H a xs ∧ DpAll K H xs ds := by
  cases h with
  | lst hs ha => exact ⟨_, _, rfl, hs, ha⟩
theorem dp_int {i : Int} (h : Dp K H v (.int i)) : v = .int i := by
  cases h
  rfl
theorem dp_str {x : Str} (h : Dp K H v (.str x)) : v = .str x := by
  cases h
  rfl
theorem all_cons {d : PyData} {ds : List PyData} (h : DpAll K H vs (d :: ds)) : ∃ x xs, vs = x :: xs ∧ Dp K H x d ∧ DpAll K H xs ds := by
  cases h with
  | cons h1 h2 => exact ⟨_, _, rfl, h1, h2⟩
theorem all_nil (h : DpAll K H vs []) : vs = [] := by
  cases h
  rfl
theorem all_len : ∀ {ds : List PyData} {vs : List V}, DpAll K H vs ds → vs.length = ds.length
  | [], _, h => by
    rw [all_nil h]
    rfl
  | d :: ds, _, h => by
    obtain ⟨x, xs, rfl, _, h2⟩ := all_cons h
    rw [List.length_cons, List.length_cons, all_len h2]
theorem all_get : ∀ {ds : List PyData} {vs : List V} {i : Nat} {d : PyData}, DpAll K H vs ds → ds[i]? = some d → ∃ x, vs[i]? = some x ∧ Dp K H x d
  | [], _, _, _, _, e => by simp at e
  | d :: ds, _, 0, d', h, e => by
    obtain ⟨x, xs, rfl, h1, h2⟩ := all_cons h
    have e' : d = d' := Option.some.inj e
    subst e'
    exact ⟨x, rfl, h1⟩
  | d :: ds, _, i + 1, d', h, e => by
    obtain ⟨x, xs, rfl, h1, h2⟩ := all_cons h
    exact all_get (i := i) h2 e
theorem all_getV : ∀ {ds : List PyData} {vs : List V} {i : Nat} {x : V}, DpAll K H vs ds → vs[i]? = some x → ∃ d, ds[i]? = some d ∧ Dp K H x d
  | [], _, i, x, h, e => by
    rw [all_nil h] at e
    simp at e
  | d :: ds, _, 0, x, h, e => by
    obtain ⟨y, ys, rfl, h1, h2⟩ := all_cons h
    have e' : y = x := Option.some.inj e
    subst e'
    exact ⟨d, rfl, h1⟩
  | d :: ds, _, i + 1, x, h, e => by
    obtain ⟨y, ys, rfl, h1, h2⟩ := all_cons h
    exact all_getV (i := i) h2 e
theorem all_app : ∀ {ds es : List PyData} {vs ws : List V}, DpAll K H vs ds → DpAll K H ws es → DpAll K H (vs ++ ws) (ds ++ es)
  | [], _, _, _, h, k => by
    rw [all_nil h]
    exact k
  | d :: ds, _, _, _, h, k => by
    obtain ⟨x, xs, rfl, h1, h2⟩ := all_cons h
    exact .cons h1 (all_app h2 k)
theorem all_set : ∀ {ds : List PyData} {vs : List V} (i : Nat) {x : V} {d : PyData}, DpAll K H vs ds → Dp K H x d → DpAll K H (vs.set i x) (ds.set i d)
  | [], _, i, x, d, h, k => by
    rw [all_nil h]
    exact .nil
  | e :: ds, _, 0, x, d, h, k => by
    obtain ⟨y, ys, rfl, h1, h2⟩ := all_cons h
    exact .cons k h2
  | e :: ds, _, i + 1, x, d, h, k => by
    obtain ⟨y, ys, rfl, h1, h2⟩ := all_cons h
    exact .cons h1 (all_set i h2 k)
theorem all_of {α : Type} {f : α → PyData} : ∀ {l : List α} {vs : List V}, vs.length = l.length → (∀ (i : Nat) (x : V) (a : α), vs[i]? = some x → l[i]? = some a → Dp K H x (f a)) → DpAll K H vs (l.map f)
  | [], [], _, _ => .nil
  | a :: l, x :: vs, hl, h => .cons (h 0 x a rfl rfl) (all_of (Nat.succ.inj hl) fun i y b e1 e2 => h (i + 1) y b e1 e2)
theorem nu_dp {q : Rat} (h : Nu K H v q) : Dp K H v (nuD q) := by
  obtain ⟨p, rfl, h⟩ := h
  exact .tup h (.cons (.int _) (.cons (.int _) .nil))
theorem dp_nu {q : Rat} (h : Dp K H v (nuD q)) : Nu K H v q := by
  obtain ⟨a, xs, rfl, hs, ha⟩ := dp_tup h
  obtain ⟨x, ys, rfl, h1, h2⟩ := all_cons ha
  obtain ⟨y, zs, rfl, h3, h4⟩ := all_cons h2
  rw [all_nil h4, dp_int h1, dp_int h3] at hs
  exact ⟨a, rfl, hs⟩
theorem dp_br {b : Rat × Nat} (h : Dp K H v (brD b)) : ∃ t cv, v = .ref t ∧ SqT K H t [cv, natV b.2] ∧ Nu K H cv b.1 := by
  obtain ⟨a, xs, rfl, hs, ha⟩ := dp_tup h
  obtain ⟨x, ys, rfl, h1, h2⟩ := all_cons ha
  obtain ⟨y, zs, rfl, h3, h4⟩ := all_cons h2
  rw [all_nil h4, dp_int h3] at hs
  exact ⟨a, x, rfl, hs, dp_nu h1⟩
theorem br_dp {b : Rat × Nat} {t : Addr} {cv : V} (h : SqT K H t [cv, natV b.2]) (hn : Nu K H cv b.1) : Dp K H (.ref t) (brD b) := .tup h (.cons (nu_dp hn) (.cons (.int _) .nil))
theorem dp_draw {bs : List (Rat × Nat)} (h : Dp K H v (plD (.draw bs))) : ∃ t l xs, v = .ref t ∧ SqT K H t [.str "draw", .ref l] ∧ SqL K H l xs ∧ DpAll K H xs (bs.map brD) := by
  obtain ⟨a, xs, rfl, hs, ha⟩ := dp_tup h
  obtain ⟨x, ys, rfl, h1, h2⟩ := all_cons ha
  obtain ⟨y, zs, rfl, h3, h4⟩ := all_cons h2
  obtain ⟨l, us, rfl, hl, hb⟩ := dp_lst h3
  rw [all_nil h4, dp_str h1] at hs
  exact ⟨a, l, us, rfl, hs, hl, hb⟩
theorem dp_rew {q : Rat} {n : Nat} (h : Dp K H v (plD (.rew q n))) : ∃ t cv, v = .ref t ∧ SqT K H t [.str "reward", cv, natV n] ∧ Nu K H cv q := by
  obtain ⟨a, xs, rfl, hs, ha⟩ := dp_tup h
  obtain ⟨x, ys, rfl, h1, h2⟩ := all_cons ha
  obtain ⟨y, zs, rfl, h3, h4⟩ := all_cons h2
  obtain ⟨z, us, rfl, h5, h6⟩ := all_cons h4
  rw [all_nil h6, dp_str h1, dp_int h5] at hs
  exact ⟨a, y, rfl, hs, dp_nu h3⟩
theorem dp_fin (h : Dp K H v (plD .fin)) : ∃ t, v = .ref t ∧ SqT K H t [.str "finish"] := by
  obtain ⟨a, xs, rfl, hs, ha⟩ := dp_tup h
  obtain ⟨x, ys, rfl, h1, h2⟩ := all_cons ha
  rw [all_nil h2, dp_str h1] at hs
  exact ⟨a, rfl, hs⟩
theorem dp_lose (h : Dp K H v (plD .lose)) : ∃ t, v = .ref t ∧ SqT K H t [.str "lose"] := by
  obtain ⟨a, xs, rfl, hs, ha⟩ := dp_tup h
  obtain ⟨x, ys, rfl, h1, h2⟩ := all_cons ha
  rw [all_nil h2, dp_str h1] at hs
  exact ⟨a, rfl, hs⟩
theorem dp_at {c : Addr} {ps : List Pl} (h : Dp K H (.ref c) (chD ps)) : ∃ xs, SqL K H c xs ∧ DpAll K H xs (ps.map plD) ∧ xs.length = ps.length := by
  obtain ⟨a, xs, e, hs, ha⟩ := dp_lst h
  cases e
  exact ⟨xs, hs, ha, by rw [all_len ha, List.length_map]⟩
theorem dp_place {xs : List V} {ps : List Pl} (h : DpAll K H xs (ps.map plD)) {i : Nat} (hi : i < ps.length) : ∃ x, xs[i]? = some x ∧ Dp K H x (plD (pAt ps i)) :=
  all_get h (by rw [List.getElem?_map, pAt_get hi]; rfl)
end
theorem wf_bs {n : Nat} {bs : List (Rat × Nat)} (h : WfP n (.draw bs)) : bs.length ≤ 6 := (h.drw bs rfl).2.1
end K20

/-! K20ProgA: targets, chances_to, step_chance. -/
namespace K20
open PySem PySem.Spec PyProof.Rows L2

/-- what the module's names are -/
structure Txt (K : PySem.W.Frag) (mg : Str → Option Value) : Prop where
  gcd : mg "gcd" = some (.builtin "math.gcd")
  one : ∃ a, mg "ONE" = some (.ref a) ∧ ∀ H, SqT K H a (nuL 1)
  nou : ∃ a, mg "NOUGHT" = some (.ref a) ∧ ∀ H, SqT K H a (nuL 0)
  len : mg "len" = none
  range : mg "range" = none
  list : mg "list" = none
  sorted : mg "sorted" = none
  set : mg "set" = none
  enum : mg "enumerate" = none
  isin : mg "isinstance" = none
  tuple : mg "tuple" = none
  int : mg "int" = none
  bool : mg "bool" = none
  abs : mg "abs" = none
  sum : mg "sum" = none
  repr : mg "repr" = none

theorem ne_rd : ¬ (V.str ("reward" : Str) = V.str ("draw" : Str)) := by decide +kernel
theorem ne_fd : ¬ (V.str ("finish" : Str) = V.str ("draw" : Str)) := by decide +kernel
theorem ne_ld : ¬ (V.str ("lose" : Str) = V.str ("draw" : Str)) := by decide +kernel
theorem ne_ro : ¬ (V.str ("reward" : Str) = V.str ("ours" : Str)) := by decide +kernel
theorem ne_fo : ¬ (V.str ("finish" : Str) = V.str ("ours" : Str)) := by decide +kernel
theorem ne_lo : ¬ (V.str ("lose" : Str) = V.str ("ours" : Str)) := by decide +kernel
theorem ne_rt : ¬ (V.str ("reward" : Str) = V.str ("theirs" : Str)) := by decide +kernel
theorem ne_ft : ¬ (V.str ("finish" : Str) = V.str ("theirs" : Str)) := by decide +kernel
theorem ne_lt : ¬ (V.str ("lose" : Str) = V.str ("theirs" : Str)) := by decide +kernel
theorem ne_fr : ¬ (V.str ("finish" : Str) = V.str ("reward" : Str)) := by decide +kernel
theorem ne_lr : ¬ (V.str ("lose" : Str) = V.str ("reward" : Str)) := by decide +kernel

/-! ### promises -/
def spTargets (K : PySem.W.Frag) : Sp := fun vs H Q _ => ∃ (c : Addr) (ps : List Pl) (i : Nat), vs = [.ref c, natV i] ∧ Dp K H (.ref c) (chD ps) ∧ Wf ps ∧ i < ps.length ∧
  ∀ p H', Same H H' → H p = none → H' p = some (.lst ((pAt ps i).tg.map natV)) → Q (.ref p) H'
def spChances (K : PySem.W.Frag) : Sp := fun vs H Q _ => ∃ (c : Addr) (ps : List Pl) (i : Nat), vs = [.ref c, natV i] ∧ Dp K H (.ref c) (chD ps) ∧ Wf ps ∧ i < ps.length ∧
  ∀ p xs H', Same H H' → H p = none → H' p = some (.lst xs) → DpAll K H' xs ((ctA ps i).map brD) → Q (.ref p) H'
def spStep (K : PySem.W.Frag) : Sp := fun vs H Q _ => ∃ (c : Addr) (ps : List Pl) (i t : Nat), vs = [.ref c, natV i, natV t] ∧ Dp K H (.ref c) (chD ps) ∧ Wf ps ∧ i < ps.length ∧
  ∀ v H', Same H H' → Nu K H' v (at_ t (ctA ps i)) → Q v H'

theorem nat_eq {a b : Nat} : (V.int (a : Int) = V.int (b : Int)) ↔ a = b := by
  constructor
  · intro h
    have := V.int.inj h
    omega
  · intro h
    rw [h]
theorem at_snoc (t : Nat) (l : List (Rat × Nat)) (b : Rat × Nat) : at_ t (l ++ [b]) = at_ t l + if b.2 = t then b.1 else 0 := by
  unfold at_
  rw [sm_append]
  show _ + ((if b.2 = t then b.1 else 0) + 0) = _
  rw [Rat.add_zero]
theorem at_take {t i : Nat} {l : List (Rat × Nat)} {b : Rat × Nat} (h : l[i]? = some b) : at_ t (l.take (i + 1)) = at_ t (l.take i) + if b.2 = t then b.1 else 0 := by
  rw [List.take_add_one, h]
  exact at_snoc t _ b
theorem at_take_lit {ps : List Pl} (h : Wf ps) {i : Nat} (hi : i < ps.length) (t j : Nat) : Lit (at_ t ((ctA ps i).take j)) := by
  have hw := wf_at h hi
  have q := at_wd (C := 1) (D := M0) M0_ne (l := (ctA ps i).take j) (fun b hb => (ct_lt hw hi b (List.mem_of_mem_take hb)).2) t
  have hl : ((ctA ps i).take j).length ≤ 6 := by
    rw [List.length_take]
    exact Nat.le_trans (Nat.min_le_right _ _) (ct_len hw)
  have q2 : Wd (M0 ^ 1) 6 (at_ t ((ctA ps i).take j)) := q.mono (by rw [Nat.pow_one]; exact Nat.dvd_refl _) (by omega)
  exact q2.lit6 (by decide) (by decide)
theorem br_lit {ps : List Pl} (h : Wf ps) {i : Nat} (hi : i < ps.length) {b : Rat × Nat} (hb : b ∈ ctA ps i) : Lit b.1 := by
  have q : Wd (M0 ^ 1) 1 b.1 := (ct_lt (wf_at h hi) hi b hb).2.mono (by rw [Nat.pow_one]; exact Nat.dvd_refl _) (Nat.le_refl _)
  exact q.lit6 (by decide) (by decide)

section
variable {P : Program} {w : World} {K : PySem.W.Frag} {mg : Str → Option Value} {base : Heap}

theorem scTargets : FnScope ["game", "place", "here", "chance", "target"] ["game", "place"] (defScope sTargets) := ⟨rfl, rfl, rfl, by decide +kernel, rfl, by decide +kernel, by decide +kernel⟩
theorem ok_targets {f : Addr} {fd : FuncData} (F : Fun K "targets" "targets" sTargets f fd) (T : Txt K mg) : FnOk P w K mg base CX0 1 f fd ["game", "place"] (spTargets K) := by
  refine F.ok scTargets (fun vs H Q E h => ?_) (fun cdv A outer s H vs Q E hr h => ?_)
  · obtain ⟨c, ps, i, rfl, _⟩ := h
    rfl
  · obtain ⟨c, ps, i, rfl, hd, hw, hi, k⟩ := h
    refine ⟨_, pss_cons (ps_set (i := 2) scTargets.nd rfl (.inl rfl) (pe_ix ix_list (pv 0) (pv 1) (fun _ _ => rfl)))
      (pss_cons (ps_if (pt_cmpR op_eq (pe_ix ix_tup (pv 2) pe_int (fun _ _ => rfl)) pe_str (nomark _))
        (pss_one (ps_ret (pe_lc (own := [("chance", 3), ("target", 4)]) (g := gTup K 2 (gCons (gName 3) (gCons (gName 4) gNil))) (tt := tYes) rfl scTargets.nd (pi_list (pe_ix ix_tup (pv 2) pe_int (fun _ _ => rfl)))
          (blkOk_by (N := ["game", "place", "here", "chance", "target"]) (sc := defScope sTargets) (by decide +kernel))
          (fun _ _ _ _ _ => by exact pg_tup rfl (pgs_cons (pg_name (i := 3) scTargets.nd rfl (.inl rfl)) (pgs_cons (pg_name (i := 4) scTargets.nd rfl (.inl rfl)) pgs_nil)))
          (fun _ _ _ _ _ => pts_nil) (fun _ _ _ _ _ => pv 4)))) pss_nil)
      (pss_cons (ps_if (PW.pt (pw_or (pt_cmpR op_eq (pe_ix ix_tup (pv 2) pe_int (fun _ _ => rfl)) pe_str (nomark _)) (pw_or1 (pt_cmpR op_eq (pe_ix ix_tup (pv 2) pe_int (fun _ _ => rfl)) pe_str (nomark _))))) (pss_one ps_never) pss_nil)
      (pss_cons (ps_if (pt_cmpR op_eq (pe_ix ix_tup (pv 2) pe_int (fun _ _ => rfl)) pe_str (nomark _)) (pss_one (ps_ret (pe_lst (pa_cons (pe_ix ix_tup (pv 2) pe_int (fun _ _ => rfl)) pa_nil)))) pss_nil)
      (pss_one (ps_ret (pe_lst pa_nil)))))), ?_⟩
    obtain ⟨xs, hc, ha, hl⟩ := dp_at hd
    obtain ⟨x, hx, hp⟩ := dp_place ha hi
    -- here = game[place]
    refine ⟨_, rfl, _, rfl, c, xs, i, x, rfl, rfl, hc, atI_nat hx, ?_⟩
    have hwp := wf_at hw hi
    revert hp hwp k
    cases e : pAt ps i with
    | draw bs =>
      intro k hp hwp
      obtain ⟨t, l, ys, rfl, ht, hy, hb⟩ := dp_draw hp
      have hlen : ys.length = bs.length := by rw [all_len hb, List.length_map]
      refine ⟨_, rfl, t, _, 0, .str "draw", rfl, rfl, ht, atI_nat (j := 0) rfl, rfl, _, rfl, iteY rfl ?_⟩
      refine ⟨_, rfl, t, _, 1, .ref l, rfl, rfl, ht, atI_nat (j := 1) rfl, l, rfl, ⟨_, hy⟩, fun D hD => ?_⟩
      refine lc_list (K := K) (a := l) (xs := ys) (fun j H' => Same H H' ∧ H' D = some (.lst ((bs.take j).map fun b => natV b.2))) ⟨same_upd hD, upd_same⟩ (fun j H' _ q => q.1.seq hy) ?_ ?_
      · rintro j y H' hj ⟨sm', eD⟩
        have hjl : j < bs.length := by
          rw [← hlen]
          exact (List.getElem?_eq_some_iff.mp hj).1
        obtain ⟨d, ed, hdp⟩ := all_getV hb hj
        rw [List.getElem?_map, List.getElem?_eq_getElem hjl] at ed
        have ed' : brD bs[j] = d := Option.some.inj ed
        rw [← ed'] at hdp
        obtain ⟨u, cv, rfl, hu, hn⟩ := dp_br hdp
        refine ⟨u, _, rfl, Same.seqT sm' hu, rfl, cv, _, rfl, natV bs[j].2, [], rfl, rfl, rfl, _, rfl, _, eD, ?_, fun b o eo => ?_, ?_⟩
        · rw [List.length_map, List.length_take]
          exact small1000 (Nat.le_trans (Nat.min_le_right _ _) (Nat.le_trans (wf_bs hwp) (by decide)))
        · rw [upd_ne (ne_of_none eo hD)]
          exact sm' b o eo
        · rw [upd_same, List.take_add_one, List.getElem?_eq_getElem hjl, List.map_append]
          rfl
      · rintro H' ⟨sm', eD⟩
        rw [hlen, List.take_length] at eD
        refine k D H' sm' hD ?_
        rw [eD]
        show _ = some (HO.lst ((bs.map (·.2)).map natV))
        rw [List.map_map]
        rfl
    | rew q n =>
      intro k hp hwp
      obtain ⟨t, cv, rfl, ht, hn⟩ := dp_rew hp
      refine ⟨_, rfl, t, _, 0, .str "reward", rfl, rfl, ht, atI_nat (j := 0) rfl, rfl, _, rfl, iteN ne_rd ?_⟩
      refine ⟨_, rfl, t, _, 0, .str "reward", rfl, rfl, ht, atI_nat (j := 0) rfl, rfl, _, rfl, iteN ne_ro ?_⟩
      refine ⟨_, rfl, t, _, 0, .str "reward", rfl, rfl, ht, atI_nat (j := 0) rfl, rfl, _, rfl, iteN ne_rt ?_⟩
      refine ⟨_, rfl, t, _, 0, .str "reward", rfl, rfl, ht, atI_nat (j := 0) rfl, rfl, _, rfl, iteY rfl ?_⟩
      refine ⟨_, rfl, t, _, 2, natV n, rfl, rfl, ht, atI_nat (j := 2) rfl, (by show 1 ≤ sizeLine; decide), fun D hD => ?_⟩
      exact k D _ (same_upd hD) hD upd_same
    | fin =>
      intro k hp hwp
      obtain ⟨t, rfl, ht⟩ := dp_fin hp
      refine ⟨_, rfl, t, _, 0, .str "finish", rfl, rfl, ht, atI_nat (j := 0) rfl, rfl, _, rfl, iteN ne_fd ?_⟩
      refine ⟨_, rfl, t, _, 0, .str "finish", rfl, rfl, ht, atI_nat (j := 0) rfl, rfl, _, rfl, iteN ne_fo ?_⟩
      refine ⟨_, rfl, t, _, 0, .str "finish", rfl, rfl, ht, atI_nat (j := 0) rfl, rfl, _, rfl, iteN ne_ft ?_⟩
      refine ⟨_, rfl, t, _, 0, .str "finish", rfl, rfl, ht, atI_nat (j := 0) rfl, rfl, _, rfl, iteN ne_fr ?_⟩
      refine ⟨(by show 0 ≤ sizeLine; decide), fun D hD => ?_⟩
      exact k D _ (same_upd hD) hD upd_same
    | lose =>
      intro k hp hwp
      obtain ⟨t, rfl, ht⟩ := dp_lose hp
      refine ⟨_, rfl, t, _, 0, .str "lose", rfl, rfl, ht, atI_nat (j := 0) rfl, rfl, _, rfl, iteN ne_ld ?_⟩
      refine ⟨_, rfl, t, _, 0, .str "lose", rfl, rfl, ht, atI_nat (j := 0) rfl, rfl, _, rfl, iteN ne_lo ?_⟩
      refine ⟨_, rfl, t, _, 0, .str "lose", rfl, rfl, ht, atI_nat (j := 0) rfl, rfl, _, rfl, iteN ne_lt ?_⟩
      refine ⟨_, rfl, t, _, 0, .str "lose", rfl, rfl, ht, atI_nat (j := 0) rfl, rfl, _, rfl, iteN ne_lr ?_⟩
      refine ⟨(by show 0 ≤ sizeLine; decide), fun D hD => ?_⟩
      exact k D _ (same_upd hD) hD upd_same

theorem scChances : FnScope ["chain", "place", "here"] ["chain", "place"] (defScope sChances) := ⟨rfl, rfl, rfl, by decide +kernel, rfl, by decide +kernel, by decide +kernel⟩
theorem ok_chances {f : Addr} {fd : FuncData} (F : Fun K "chances_to" "chances_to" sChances f fd) (T : Txt K mg) : FnOk P w K mg base CX0 1 f fd ["chain", "place"] (spChances K) := by
  obtain ⟨aO, gO, hO⟩ := T.one
  refine F.ok scChances (fun vs H Q E h => ?_) (fun cdv A outer s H vs Q E hr h => ?_)
  · obtain ⟨c, ps, i, rfl, _⟩ := h
    rfl
  · obtain ⟨c, ps, i, rfl, hd, hw, hi, k⟩ := h
    refine ⟨_, pss_cons (ps_set (i := 2) scChances.nd rfl (.inl rfl) (pe_ix ix_list (pv 0) (pv 1) (fun _ _ => rfl)))
      (pss_cons (ps_if (pt_cmpR op_eq (pe_ix ix_tup (pv 2) pe_int (fun _ _ => rfl)) pe_str (nomark _))
        (pss_one (ps_ret (pe_callTy call_list_of (by rfl) T.list (by decide +kernel) (pa_cons (pe_ix ix_tup (pv 2) pe_int (fun _ _ => rfl)) pa_nil)))) pss_nil)
      (pss_cons (ps_if (pt_cmpR op_eq (pe_ix ix_tup (pv 2) pe_int (fun _ _ => rfl)) pe_str (nomark _))
        (pss_one (ps_ret (pe_lst (pa_cons (pe_tup (pa_cons (pe_glob (v := .ref aO) (by rfl) gO rfl) (pa_cons (pe_ix ix_tup (pv 2) pe_int (fun _ _ => rfl)) pa_nil))) pa_nil)))) pss_nil)
      (pss_one (ps_ret (pe_lst (pa_cons (pe_tup (pa_cons (pe_glob (v := .ref aO) (by rfl) gO rfl) (pa_cons (pv 1) pa_nil))) pa_nil)))))), ?_⟩
    obtain ⟨xs, hc, ha, hl⟩ := dp_at hd
    obtain ⟨x, hx, hp⟩ := dp_place ha hi
    refine ⟨_, rfl, _, rfl, c, xs, i, x, rfl, rfl, hc, atI_nat hx, ?_⟩
    have hwp := wf_at hw hi
    have eA : ctA ps i = (pAt ps i).ct i := rfl
    rw [eA] at k
    revert hp hwp k
    -- the pair (ONE, n) in a new list
    have one : ∀ (n : Nat) (p1 p2 : Addr), H p1 = none → (upd H p1 (.tup [.ref aO, natV n])) p2 = none → Same H (upd (upd H p1 (.tup [.ref aO, natV n])) p2 (.lst [.ref p1])) ∧ H p2 = none ∧ DpAll K (upd (upd H p1 (.tup [.ref aO, natV n])) p2 (.lst [.ref p1])) [.ref p1] ([((1 : Rat), n)].map brD) := by
      intro n p1 p2 h1 h2
      have s1 := same_upd (o := .tup [.ref aO, natV n]) h1
      have s2 := same_upd (o := .lst [.ref p1]) h2
      refine ⟨s1.trans s2, s1.free h2, .cons (br_dp (b := ((1 : Rat), n)) (cv := .ref aO) (Same.seqT s2 (.inl (.inl upd_same))) ⟨aO, rfl, hO _⟩) .nil⟩
    cases e : pAt ps i with
    | draw bs =>
      intro k hp hwp
      obtain ⟨t, l, ys, rfl, ht, hy, hb⟩ := dp_draw hp
      refine ⟨_, rfl, t, _, 0, .str "draw", rfl, rfl, ht, atI_nat (j := 0) rfl, rfl, _, rfl, iteY rfl ?_⟩
      refine ⟨_, rfl, t, _, 1, .ref l, rfl, rfl, ht, atI_nat (j := 1) rfl, l, ys, rfl, .inl hy, fun D hD => ?_⟩
      exact k D ys _ (same_upd hD) hD upd_same (dpAll_same (same_upd hD) _ _ hb)
    | rew q n =>
      intro k hp hwp
      obtain ⟨t, cv, rfl, ht, hn⟩ := dp_rew hp
      refine ⟨_, rfl, t, _, 0, .str "reward", rfl, rfl, ht, atI_nat (j := 0) rfl, rfl, _, rfl, iteN ne_rd ?_⟩
      refine ⟨_, rfl, t, _, 0, .str "reward", rfl, rfl, ht, atI_nat (j := 0) rfl, rfl, _, rfl, iteY rfl ?_⟩
      refine ⟨_, rfl, t, _, 2, natV n, rfl, rfl, ht, atI_nat (j := 2) rfl, (by show 2 ≤ sizeLine; decide), fun p1 h1 => ⟨(by show 1 ≤ sizeLine; decide), fun p2 h2 => ?_⟩⟩
      obtain ⟨z1, z2, z3⟩ := one n p1 p2 h1 h2
      exact k p2 _ _ z1 z2 upd_same z3
    | fin =>
      intro k hp hwp
      obtain ⟨t, rfl, ht⟩ := dp_fin hp
      refine ⟨_, rfl, t, _, 0, .str "finish", rfl, rfl, ht, atI_nat (j := 0) rfl, rfl, _, rfl, iteN ne_fd ?_⟩
      refine ⟨_, rfl, t, _, 0, .str "finish", rfl, rfl, ht, atI_nat (j := 0) rfl, rfl, _, rfl, iteN ne_fr ?_⟩
      refine ⟨_, rfl, (by show 2 ≤ sizeLine; decide), fun p1 h1 => ⟨(by show 1 ≤ sizeLine; decide), fun p2 h2 => ?_⟩⟩
      obtain ⟨z1, z2, z3⟩ := one i p1 p2 h1 h2
      exact k p2 _ _ z1 z2 upd_same z3
    | lose =>
      intro k hp hwp
      obtain ⟨t, rfl, ht⟩ := dp_lose hp
      refine ⟨_, rfl, t, _, 0, .str "lose", rfl, rfl, ht, atI_nat (j := 0) rfl, rfl, _, rfl, iteN ne_ld ?_⟩
      refine ⟨_, rfl, t, _, 0, .str "lose", rfl, rfl, ht, atI_nat (j := 0) rfl, rfl, _, rfl, iteN ne_lr ?_⟩
      refine ⟨_, rfl, (by show 2 ≤ sizeLine; decide), fun p1 h1 => ⟨(by show 1 ≤ sizeLine; decide), fun p2 h2 => ?_⟩⟩
      obtain ⟨z1, z2, z3⟩ := one i p1 p2 h1 h2
      exact k p2 _ _ z1 z2 upd_same z3

theorem scStepCh : FnScope ["chain", "place", "target", "found", "chance", "other"] ["chain", "place", "target"] (defScope sStepCh) := ⟨rfl, rfl, rfl, by decide +kernel, rfl, by decide +kernel, by decide +kernel⟩
theorem ok_step {f : Addr} {fd : FuncData} (F : Fun K "step_chance" "step_chance" sStepCh f fd) (T : Txt K mg) (cC : C8.Cal P w K mg base 1 "chances_to" (spChances K) []) (cP : C8.Cal P w K mg base 2 "plus" (spPlus K) []) :
    FnOk P w K mg base CX0 3 f fd ["chain", "place", "target"] (spStep K) := by
  obtain ⟨aN, gN, hN⟩ := T.nou
  refine F.ok scStepCh (fun vs H Q E h => ?_) (fun cdv A outer s H vs Q E hr h => ?_)
  · obtain ⟨c, ps, i, t, rfl, _⟩ := h
    rfl
  · obtain ⟨c, ps, i, t, rfl, hd, hw, hi, k⟩ := h
    refine ⟨_, pss_cons (ps_set (i := 3) scStepCh.nd rfl (.inl rfl) (pe_glob (v := .ref aN) (by rfl) gN rfl))
      (pss_cons (ps_for PassesOwn.never rfl (pi_list (C8.pe_c cC hr (by decide) (by rfl) (pa_cons (pv 0) (pa_cons (pv 1) pa_nil)))) (pg_tup rfl (pgs_cons (pg_name (i := 4) scStepCh.nd rfl (.inl rfl)) (pgs_cons (pg_name (i := 5) scStepCh.nd rfl (.inl rfl)) pgs_nil)))
        (pss_one (ps_if (pt_cmpR op_eq (pv 5) (pv 2) (nomark _)) (pss_one (ps_set (i := 3) scStepCh.nd rfl (.inl rfl) (C8.pe_c cP hr (by decide) (by rfl) (pa_cons (pv 3) (pa_cons (pv 4) pa_nil))))) pss_nil)))
      (pss_one (ps_ret (pv 3)))), ?_⟩
    refine ⟨_, rfl, _, rfl, c, ps, i, rfl, hd, hw, hi, fun l xs H1 s1 hl el ha => ?_⟩
    have hlen : xs.length = (ctA ps i).length := by rw [all_len ha, List.length_map]
    refine ⟨l, rfl, ⟨xs, .inl (.inl el)⟩, for_list (K := K) (a := l) (xs := xs) (fun j σ H2 => ∃ (fv : V) (y4 y5 : Option V), σ = [some (.ref c), some (natV i), some (natV t), some fv, y4, y5] ∧ Same H1 H2 ∧ Nu K H2 fv (at_ t ((ctA ps i).take j)))
      ⟨.ref aN, none, none, rfl, Same.refl _, ⟨aN, rfl, hN _⟩⟩ (fun j σ H2 _ ⟨_, _, _, _, s2, _⟩ => s2.seq (.inl (.inl el))) ?_ ?_⟩
    · rintro j y σ H2 hj ⟨fv, y4, y5, rfl, s2, hf⟩
      have hjl : j < (ctA ps i).length := by
        rw [← hlen]
        exact (List.getElem?_eq_some_iff.mp hj).1
      obtain ⟨d, ed, hdp⟩ := all_getV ha hj
      rw [List.getElem?_map, List.getElem?_eq_getElem hjl] at ed
      have ed' : brD (ctA ps i)[j] = d := Option.some.inj ed
      rw [← ed'] at hdp
      obtain ⟨u, cv, rfl, hu, hn⟩ := dp_br hdp
      have hm : (ctA ps i)[j] ∈ ctA ps i := List.getElem_mem hjl
      have et := at_take (t := t) (List.getElem?_eq_getElem hjl)
      refine ⟨u, _, rfl, Same.seqT s2 hu, rfl, cv, _, rfl, natV (ctA ps i)[j].2, [], rfl, rfl, ?_⟩
      refine ⟨_, rfl, _, rfl, rfl, _, rfl, ite2 (fun eq => ?_) (fun ne => ?_)⟩
      · have eq' := nat_eq.mp (of_decide_eq_true eq)
        refine ⟨_, rfl, _, rfl, fv, cv, _, _, rfl, hf, hn.same s2, at_take_lit hw hi t j, br_lit hw hi hm, fun p hp => ?_⟩
        refine ⟨.ref p, _, _, rfl, s2.trans (same_upd hp), ?_⟩
        rw [et, if_pos eq']
        exact Nu.new
      · have ne' : ¬ (ctA ps i)[j].2 = t := fun z => ne (decide_eq_true (nat_eq.mpr z))
        refine ⟨fv, _, _, rfl, s2, ?_⟩
        rw [et, if_neg ne', Rat.add_zero]
        exact hf
    · rintro σ H2 ⟨fv, y4, y5, rfl, s2, hf⟩
      rw [hlen, List.take_length] at hf
      exact ⟨fv, rfl, k fv H2 (s1.trans s2) hf⟩
end
end K20

/-! K20ProgB: masses_after. -/
namespace K20
open PySem PySem.Spec PyProof.Rows L2

/-! ### heaps that are the same but for one list -/
def But (r : Addr) (H H' : Hp) : Prop := ∀ b o, b ≠ r → H b = some o → H' b = some o
theorem But.refl (r : Addr) (H : Hp) : But r H H := fun _ _ _ e => e
theorem But.trans {r : Addr} {H H1 H2 : Hp} (a : But r H H1) (b : But r H1 H2) : But r H H2 := fun c o n e => b c o n (a c o n e)
theorem But.of_same {r : Addr} {H H' : Hp} (e : Same H H') : But r H H' := fun b o _ h => e b o h
theorem But.upd (r : Addr) (H : Hp) (o : HO) : But r H (upd H r o) := fun b x n e => by
  rw [upd_ne n]
  exact e
theorem But.same {r : Addr} {H0 H H' : Hp} (b : But r H H') (s : Same H0 H) (n : H0 r = none) : Same H0 H' := fun c o e => b c o (ne_of_none e n) (s c o e)
section
variable {K : PySem.W.Frag} {r : Addr} {H H' : Hp} {ls : List V} {v : V}
theorem but_T (b : But r H H') (hr : H r = some (.lst ls)) {a : Addr} {xs : List V} (h : SqT K H a xs) : SqT K H' a xs := by
  rcases h with (h | ⟨o, h⟩) | h
  · exact .inl (.inl (b _ _ (ne_of h hr (by intro z; cases z)) h))
  · exact .inl (.inr ⟨o, b _ _ (ne_of h hr (by intro z; cases z)) h⟩)
  · exact .inr h
theorem but_L (b : But r H H') {a : Addr} {xs : List V} (n : a ≠ r) (h : SqL K H a xs) : SqL K H' a xs := by
  rcases h with (h | ⟨o, h⟩) | h
  · exact .inl (.inl (b _ _ n h))
  · exact .inl (.inr ⟨o, b _ _ n h⟩)
  · exact .inr h
theorem but_nu (b : But r H H') (hr : H r = some (.lst ls)) {q : Rat} (h : Nu K H v q) : Nu K H' v q := by
  obtain ⟨p, rfl, h⟩ := h
  exact ⟨p, rfl, but_T b hr h⟩
theorem but_nus (b : But r H H') (hr : H r = some (.lst ls)) : ∀ {qs : List Rat} {vs : List V}, DpAll K H vs (qs.map nuD) → DpAll K H' vs (qs.map nuD)
  | [], _, h => by
    rw [all_nil h]
    exact .nil
  | q :: qs, _, h => by
    obtain ⟨x, xs, rfl, h1, h2⟩ := all_cons h
    exact .cons (nu_dp (but_nu b hr (dp_nu h1))) (but_nus b hr h2)
theorem but_nus_set {v : V} {q : Rat} (b : But r H H') (hr : H r = some (.lst ls)) {qs : List Rat} {vs : List V} (h : DpAll K H vs (qs.map nuD)) (hv : Nu K H v q) {i : Nat} : DpAll K H' (vs.set i v) ((qs.map nuD).set i (nuD q)) :=
  all_set i (but_nus b hr h) (nu_dp (but_nu b hr hv))
theorem but_brs (b : But r H H') (hr : H r = some (.lst ls)) : ∀ {bs : List (Rat × Nat)} {vs : List V}, DpAll K H vs (bs.map brD) → DpAll K H' vs (bs.map brD)
  | [], _, h => by
    rw [all_nil h]
    exact .nil
  | c :: bs, _, h => by
    obtain ⟨x, xs, rfl, h1, h2⟩ := all_cons h
    obtain ⟨t, cv, rfl, h3, h4⟩ := dp_br h1
    exact .cons (br_dp (but_T b hr h3) (but_nu b hr h4)) (but_brs b hr h2)
end

/-! ### the masses' mathematics, turn by turn -/
def mopsTo (ps : List Pl) (m : List Rat) (i : Nat) : List (Rat × Nat) := (List.range i).flatMap fun i => (ctA ps i).map fun b => (m.getD i 0 * b.1, b.2)
theorem mopsTo_succ (ps : List Pl) (m : List Rat) (i : Nat) : mopsTo ps m (i + 1) = mopsTo ps m i ++ (ctA ps i).map fun b => (m.getD i 0 * b.1, b.2) := by
  unfold mopsTo
  rw [List.range_succ, List.flatMap_append, List.flatMap_singleton]
theorem mopsTo_pre (ps : List Pl) (m : List Rat) (i : Nat) : ∀ d, mopsTo ps m i <+: mopsTo ps m (i + d)
  | 0 => List.prefix_refl _
  | d + 1 => by
    rw [← Nat.add_assoc, mopsTo_succ]
    exact (mopsTo_pre ps m i d).trans (List.prefix_append _ _)
theorem mops_pre (ps : List Pl) (m : List Rat) {i : Nat} (hi : i < ps.length) (j : Nat) : mopsTo ps m i ++ ((ctA ps i).take j).map (fun b => (m.getD i 0 * b.1, b.2)) <+: mops ps m := by
  have h1 : mopsTo ps m i ++ ((ctA ps i).take j).map (fun b => (m.getD i 0 * b.1, b.2)) <+: mopsTo ps m (i + 1) := by
    rw [mopsTo_succ, List.map_take]
    exact List.prefix_append_right_inj _ |>.mpr (List.take_prefix _ _)
  have h2 := mopsTo_pre ps m (i + 1) (ps.length - (i + 1))
  rw [Nat.add_sub_of_le hi] at h2
  exact h1.trans h2
theorem acc_lit {ps : List Pl} (h : Wf ps) (x : Nat) {k : Nat} (hk : k + 1 ≤ 6) {ops : List (Rat × Nat)} (hp : ops <+: mops ps (ms ps x k)) (y : Nat) : Lit ((acc (nil_ ps.length) ops).getD y 0) := by
  have h0 : ∀ z ∈ nil_ ps.length, Wd (M0 ^ (k + 1)) 0 z := fun z hz => by
    rw [List.eq_of_mem_replicate hz]
    exact Wd.zero _
  have ho : ∀ o ∈ ops, Wd (M0 ^ (k + 1)) (60 ^ k) o.1 := fun o hm => mops_wd h (ms_wd h x k) o (hp.subset hm)
  have h1 := acc_wd (M0_pow (k + 1)) ho h0
  have hl : ops.length ≤ 60 := Nat.le_trans hp.length_le (mops_len h _)
  have hb : 0 + ops.length * 60 ^ k ≤ 60 ^ 6 := by
    have e1 : ops.length * 60 ^ k ≤ 60 * 60 ^ k := Nat.mul_le_mul_right _ hl
    have e2 : 60 * 60 ^ k = 60 ^ (k + 1) := by rw [Nat.pow_succ, Nat.mul_comm]
    have e3 : 60 ^ (k + 1) ≤ 60 ^ 6 := Nat.pow_le_pow_right (by decide) hk
    omega
  rw [List.getD_eq_getElem?_getD]
  cases e : (acc (nil_ ps.length) ops)[y]? with
  | none => exact ⟨by decide, by decide⟩
  | some z => exact Wd.lit6 hk (Nat.le_trans hb (by decide)) (h1 z (List.mem_of_getElem? e))
theorem ms_lit {ps : List Pl} (h : Wf ps) (x : Nat) {k : Nat} (hk : k ≤ 6) (y : Nat) : Lit ((ms ps x k).getD y 0) := by
  rw [List.getD_eq_getElem?_getD]
  cases e : (ms ps x k)[y]? with
  | none => exact ⟨by decide, by decide⟩
  | some z =>
    refine Wd.lit6 hk ?_ (ms_wd h x k z (List.mem_of_getElem? e))
    exact Nat.le_trans (Nat.pow_le_pow_right (by decide) hk) (by decide)
theorem mop_lit {ps : List Pl} (h : Wf ps) (x : Nat) {k : Nat} (hk : k + 1 ≤ 6) {i : Nat} (hi : i < ps.length) {b : Rat × Nat} (hb : b ∈ ctA ps i) : Lit ((ms ps x k).getD i 0 * b.1) := by
  have hm : ((ms ps x k).getD i 0 * b.1, b.2) ∈ mops ps (ms ps x k) := List.mem_flatMap.mpr ⟨i, List.mem_range.mpr hi, List.mem_map.mpr ⟨b, hb, rfl⟩⟩
  have q := mops_wd h (ms_wd h x k) _ hm
  refine Wd.lit6 hk ?_ q
  exact Nat.le_trans (Nat.pow_le_pow_right (by decide) (show k ≤ 6 by omega)) (by decide)
theorem getD_of {l : List Rat} {i : Nat} {q : Rat} (h : l[i]? = some q) : l.getD i 0 = q := by
  rw [List.getD_eq_getElem?_getD, h]
  rfl
theorem get_of_lt {l : List Rat} {i : Nat} (h : i < l.length) : l[i]? = some (l.getD i 0) := by
  rw [List.getD_eq_getElem?_getD, List.getElem?_eq_getElem h]
  rfl
theorem ixN_nat {n t : Nat} (h : t < n) : ixN n ((t : Nat) : Int) = some t := by
  unfold ixN
  rw [if_pos (by omega), if_pos (by omega), Int.toNat_natCast]

def spMasses (K : PySem.W.Frag) : Sp := fun vs H Q _ => ∃ (c : Addr) (ps : List Pl) (x k : Nat), vs = [.ref c, natV x, natV k] ∧ Dp K H (.ref c) (chD ps) ∧ Wf ps ∧ x < ps.length ∧ k ≤ 6 ∧
  ∀ v H', Same H H' → Dp K H' v (.list ((ms ps x k).map nuD)) → Q v H'
theorem nil_rep (n : Nat) (a : V) : (List.replicate n [a]).flatten = List.replicate n a := by
  induction n with
  | zero => rfl
  | succ n ih => rw [List.replicate_succ, List.flatten_cons, ih, List.replicate_succ]; rfl
theorem reps_dp {K : PySem.W.Frag} {H : Hp} {v : V} (h : Nu K H v 0) : ∀ n, DpAll K H (List.replicate n v) ((nil_ n).map nuD)
  | 0 => .nil
  | n + 1 => .cons (nu_dp h) (reps_dp h n)

section
variable {P : Program} {w : World} {K : PySem.W.Frag} {mg : Str → Option Value} {base : Heap}
theorem scMasses : FnScope ["chain", "place", "steps", "masses", "_", "later", "here", "mass", "chance", "target", "other"] ["chain", "place", "steps"] (defScope sMasses) := ⟨rfl, rfl, rfl, by decide +kernel, rfl, by decide +kernel, by decide +kernel⟩
theorem ok_masses {f : Addr} {fd : FuncData} (F : Fun K "masses_after" "masses_after" sMasses f fd) (T : Txt K mg) (cC : C8.Cal P w K mg base 1 "chances_to" (spChances K) []) (cP : C8.Cal P w K mg base 2 "plus" (spPlus K) []) (cT : C8.Cal P w K mg base 2 "times" (spTimes K) []) :
    FnOk P w K mg base CX0 3 f fd ["chain", "place", "steps"] (spMasses K) := by
  obtain ⟨aN, gN, hN⟩ := T.nou
  obtain ⟨aO, gO, hO⟩ := T.one
  refine F.ok scMasses (fun vs H Q E h => ?_) (fun cdv A outer s H vs Q E hr h => ?_)
  · obtain ⟨c, ps, x, k, rfl, _⟩ := h
    rfl
  · obtain ⟨c, ps, x, k, rfl, hd, hw, hx, hk, q⟩ := h
    have nd := scMasses.nd
    refine ⟨_, pss_cons (ps_setLc (i := 3) (own := [("other", 10)]) (g := gName 10) (tt := tYes) rfl nd rfl rfl (sw_true rfl rfl rfl (by decide +kernel))
        (pi_range1 rfl T.range (pa_cons (pe_callB call_len_seq (by rfl) T.len PySem.boot_len (pa_cons (pv 0) pa_nil)) pa_nil))
        (blkOk_by (N := ["chain", "place", "steps", "masses", "_", "later", "here", "mass", "chance", "target", "other"]) (sc := defScope sMasses) (by decide +kernel))
        (fun _ _ _ _ _ => by exact pg_name (i := 10) nd rfl (.inl rfl)) (fun _ _ _ _ _ => pts_nil)
        (fun _ _ _ _ _ => by exact pe_ifExp (pt_cmpR op_eq (pv 10) (pv 1) (nomark _)) (pe_glob (v := .ref aO) (by rfl) gO rfl) (pe_glob (v := .ref aN) (by rfl) gN rfl)))
      (pss_cons (ps_for PassesOwn.never rfl (pi_range1 rfl T.range (pa_cons (pv 2) pa_nil)) (pg_name (i := 4) nd rfl (.inl rfl))
        (pss_cons (ps_set (i := 5) nd rfl (.inl rfl) (pe_op op_rep (pe_lst (pa_cons (pe_glob (v := .ref aN) (by rfl) gN rfl) pa_nil)) (pe_callB call_len_seq (by rfl) T.len PySem.boot_len (pa_cons (pv 0) pa_nil))))
        (pss_cons (ps_for PassesOwn.never rfl (pi_enum (by rfl) T.enum (pa_cons (pv 3) pa_nil)) (pg_tup rfl (pgs_cons (pg_name (i := 6) nd rfl (.inl rfl)) (pgs_cons (pg_name (i := 7) nd rfl (.inl rfl)) pgs_nil)))
          (pss_one (ps_for PassesOwn.never rfl (pi_list (C8.pe_c cC hr (by decide) (by rfl) (pa_cons (pv 0) (pa_cons (pv 6) pa_nil)))) (pg_tup rfl (pgs_cons (pg_name (i := 8) nd rfl (.inl rfl)) (pgs_cons (pg_name (i := 9) nd rfl (.inl rfl)) pgs_nil)))
            (pss_one (ps_asg (C8.pe_c cP hr (by decide) (by rfl) (pa_cons (pe_ix ix_list (pv 5) (pv 9) (fun _ _ => rfl)) (pa_cons (C8.pe_c cT hr (by decide) (by rfl) (pa_cons (pv 7) (pa_cons (pv 8) pa_nil))) pa_nil))) (pg_sub (pv 5) (pv 9) set_list))))))
        (pss_one (ps_set (i := 3) nd rfl (.inl rfl) (pv 5))))))
      (pss_one (ps_ret (pv 3)))), ?_⟩
    obtain ⟨cs, hc, hca, hcl⟩ := dp_at hd
    have hn10 : ps.length ≤ 10 := hw.2.1
    -- masses = [..]
    refine ⟨_, rfl, c, cs, rfl, .inl hc, (cs.length : Int), rfl, by omega, by omega, fun D hD => ?_⟩
    refine lc_range (lo := 0) (n := cs.length) (fun j H1 => Same H H1 ∧ ∃ xs, H1 D = some (.lst xs) ∧ xs.length = j ∧ DpAll K H xs (((List.range j).map fun y => if y = x then (1 : Rat) else 0).map nuD)) ⟨same_upd hD, [], upd_same, rfl, .nil⟩ ?_ ?_
    · rintro j H1 hj ⟨s1, xs, eD, el, ha⟩
      have eO : DpAll K H (xs ++ [.ref aO]) (((List.range j).map fun y => if y = x then (1 : Rat) else 0).map nuD ++ [nuD 1]) := all_app ha (.cons (nu_dp ⟨aO, rfl, hO _⟩) .nil)
      have eN : DpAll K H (xs ++ [.ref aN]) (((List.range j).map fun y => if y = x then (1 : Rat) else 0).map nuD ++ [nuD 0]) := all_app ha (.cons (nu_dp ⟨aN, rfl, hN _⟩) .nil)
      have er : ((List.range (j + 1)).map fun y => if y = x then (1 : Rat) else 0).map nuD = ((List.range j).map fun y => if y = x then (1 : Rat) else 0).map nuD ++ [nuD (if j = x then 1 else 0)] := by
        rw [List.range_succ, List.map_append, List.map_append]
        rfl
      have st : ∀ (v : V), Same H (upd H1 D (.lst (xs ++ [v]))) := fun v b o e => by
        rw [upd_ne (ne_of_none e hD)]
        exact s1 b o e
      refine ⟨rfl, _, rfl, _, rfl, rfl, _, rfl, ?_⟩
      refine ite2 (fun eq => ?_) (fun ne => ?_)
      · have eq' : j = x := by
          have := V.int.inj (of_decide_eq_true eq)
          omega
        refine ⟨xs, eD, small1000 (by omega), st _, _, upd_same, by rw [List.length_append, el]; rfl, ?_⟩
        rw [er, if_pos eq']
        exact eO
      · have ne' : ¬ j = x := fun z => ne (decide_eq_true (by rw [z, Int.zero_add]))
        refine ⟨xs, eD, small1000 (by omega), st _, _, upd_same, by rw [List.length_append, el]; rfl, ?_⟩
        rw [er, if_neg ne']
        exact eN
    · rintro H1 ⟨s1, xs, eD, el, ha⟩
      rw [hcl] at ha el
      -- for _ in range(steps)
      refine ⟨_, rfl, (k : Int), rfl, by omega, by omega, for_range (lo := 0) (n := k) (fun j σ H2 => ∃ (p : Addr) (xs : List V) (y4 y5 y6 y7 y8 y9 y10 : Option V), σ = [some (.ref c), some (natV x), some (natV k), some (.ref p), y4, y5, y6, y7, y8, y9, y10] ∧
          Same H H2 ∧ H2 p = some (.lst xs) ∧ DpAll K H2 xs ((ms ps x j).map nuD))
        ⟨D, xs, _, _, _, _, _, _, _, rfl, s1, eD, dpAll_same s1 _ _ ha⟩ ?_ ?_⟩
      · rintro j σ H2 hj ⟨p, xs, y4, y5, y6, y7, y8, y9, y10, rfl, s2, ep, hm⟩
        have hj6 : j + 1 ≤ 6 := by omega
        have hml : xs.length = ps.length := by rw [all_len hm, List.length_map, ms_len]
        -- later = [NOUGHT] * len(chain)
        refine ⟨(by show 1 ≤ sizeLine; decide), fun z hz => ?_⟩
        have s3 : Same H (upd H2 z (.lst [.ref aN])) := s2.trans (same_upd hz)
        refine ⟨_, rfl, c, cs, rfl, .inl (s3.seq hc), z, (cs.length : Int), [.ref aN], rfl, rfl, upd_same, by omega, by omega, ?_, fun r hr' => ?_⟩
        · rw [Int.toNat_natCast]
          show 1 * cs.length ≤ sizeLine
          have := small1000 (show cs.length ≤ 1000 by omega)
          omega
        · rw [Int.toNat_natCast, hcl, nil_rep]
          have hm3 : DpAll K (upd H2 z (.lst [.ref aN])) xs ((ms ps x j).map nuD) := dpAll_same (same_upd hz) _ _ hm
          have ep3 : (upd H2 z (.lst [.ref aN])) p = some (.lst xs) := same_upd hz _ _ ep
          revert hr' s3 hm3 ep3
          generalize upd H2 z (.lst [.ref aN]) = Hb
          intro s3 hr' hm3 ep3
          have s4 : Same Hb (upd Hb r (.lst (List.replicate ps.length (.ref aN)))) := same_upd hr'
          -- for here, mass in enumerate(masses)
          refine ⟨_, rfl, p, xs, rfl, .inl (.inl (s4 _ _ ep3)), for_it (walk_enum (K := K) (a := p) (xs := xs))
            (fun i σ H4 => ∃ (ls : List V) (y4 y6 y7 y8 y9 y10 : Option V), σ = [some (.ref c), some (natV x), some (natV k), some (.ref p), y4, some (.ref r), y6, y7, y8, y9, y10] ∧ Same Hb H4 ∧ H4 r = some (.lst ls) ∧ DpAll K H4 ls ((acc (nil_ ps.length) (mopsTo ps (ms ps x j) i)).map nuD))
            ⟨_, _, _, _, _, _, _, rfl, s4, upd_same, reps_dp ⟨aN, rfl, hN _⟩ _⟩ (fun i σ H4 _ ⟨_, _, _, _, _, _, _, _, s5, _⟩ => s5.seq (.inl (.inl ep3))) ?_ ?_⟩
          · rintro i v σ H4 H4' hi ⟨ls, y4, y6, y7, y8, y9, y10, rfl, s5, er, hl⟩ ⟨u, v1, mv, rfl, hu, rfl, e1, e2⟩
            have e1' : V.int ((i : Nat) : Int) = v1 := Option.some.inj e1
            subst e1'
            have hin : i < ps.length := by
              rw [← hml]
              exact hi
            have hur : r ≠ u := ne_of_none er hu
            have s6 : Same H4 (upd H4 u (.tup [.int (i : Nat), mv])) := same_upd hu
            have er6 := s6 _ _ er
            have s56 := s5.trans s6
            -- the mass
            obtain ⟨d, ed, hdp⟩ := all_getV hm3 e2
            rw [List.getElem?_map, get_of_lt (by rw [ms_len]; exact hin)] at ed
            have ed' : nuD ((ms ps x j).getD i 0) = d := Option.some.inj ed
            rw [← ed'] at hdp
            have hmass := dp_nu hdp
            refine ⟨u, _, rfl, .inl (.inl upd_same), rfl, natV i, _, rfl, mv, [], rfl, rfl, ?_⟩
            have hl6 := dpAll_same s6 _ _ hl
            revert er6 s56 hl6
            generalize upd H4 u (.tup [.int (i : Nat), mv]) = H6
            intro er6 s56 hl6
            -- for chance, target in chances_to(chain, here)
            refine ⟨_, rfl, _, rfl, c, ps, i, rfl, dp_same (s3.trans s56) _ _ hd, hw, hin, fun l bs H7 s7 hl7 el7 hb => ?_⟩
            have hbl : bs.length = (ctA ps i).length := by rw [all_len hb, List.length_map]
            have hlr : l ≠ r := fun z => by
              rw [z, er6] at hl7
              cases hl7
            refine ⟨l, rfl, ⟨bs, .inl (.inl el7)⟩, for_list (K := K) (a := l) (xs := bs)
              (fun t σ H8 => ∃ (ls : List V) (y8 y9 : Option V), σ = [some (.ref c), some (natV x), some (natV k), some (.ref p), y4, some (.ref r), some (natV i), some mv, y8, y9, y10] ∧ But r H7 H8 ∧ H8 r = some (.lst ls) ∧
                DpAll K H8 ls ((acc (nil_ ps.length) (mopsTo ps (ms ps x j) i ++ ((ctA ps i).take t).map fun b => ((ms ps x j).getD i 0 * b.1, b.2))).map nuD))
              ⟨ls, _, _, rfl, But.refl r H7, s7 _ _ er6, by rw [List.take_zero, List.map_nil, List.append_nil]; exact dpAll_same s7 _ _ hl6⟩ (fun t σ H8 _ ⟨_, _, _, _, b8, _⟩ => but_L b8 hlr (.inl (.inl el7))) ?_ ?_⟩
            · rintro t y σ H8 ht ⟨ls8, y8, y9, rfl, b8, er8, ha8⟩
              have htl : t < (ctA ps i).length := by
                rw [← hbl]
                exact (List.getElem?_eq_some_iff.mp ht).1
              obtain ⟨d, ed, hdp⟩ := all_getV hb ht
              rw [List.getElem?_map, List.getElem?_eq_getElem htl] at ed
              have ed' : brD (ctA ps i)[t] = d := Option.some.inj ed
              rw [← ed'] at hdp
              obtain ⟨g, cv, rfl, hg, hcv⟩ := dp_br hdp
              have hbm : (ctA ps i)[t] ∈ ctA ps i := List.getElem_mem htl
              have er7 : H7 r = some (.lst ls) := s7 _ _ er6
              have hto : (ctA ps i)[t].2 < ps.length := (ct_lt (wf_at hw hin) hin _ hbm).1
              refine ⟨g, _, rfl, but_T b8 er7 hg, rfl, cv, _, rfl, natV (ctA ps i)[t].2, [], rfl, rfl, ?_⟩
              have hpre := mops_pre ps (ms ps x j) hin t
              revert ha8 hpre
              generalize hops : mopsTo ps (ms ps x j) i ++ ((ctA ps i).take t).map (fun b => ((ms ps x j).getD i 0 * b.1, b.2)) = ops
              intro ha8 hpre
              have hll : ls8.length = ps.length := by
                rw [all_len ha8, List.length_map, acc_len]
                exact List.length_replicate
              have hal : (acc (nil_ ps.length) ops).length = ps.length := by
                rw [acc_len]
                exact List.length_replicate
              obtain ⟨lv, hlv, hlvd⟩ := all_get (i := (ctA ps i)[t].2) ha8 (by rw [List.getElem?_map, get_of_lt (by rw [hal]; exact hto)]; rfl)
              have s78 : Same Hb H8 := b8.same (s56.trans s7) hr'
              -- later[target] = plus(later[target], times(mass, chance))
              refine ⟨_, rfl, _, rfl, r, ls8, ((ctA ps i)[t].2 : Int), lv, rfl, rfl, .inl (.inl er8), atI_nat hlv, ?_⟩
              refine ⟨_, rfl, _, rfl, mv, cv, _, _, rfl, hmass.same s78, but_nu b8 er7 hcv, ms_lit hw x (show j ≤ 6 by omega) i, br_lit hw hin hbm, fun p1 h1 => ?_⟩
              have s9 := same_upd (o := .tup (nuL ((ms ps x j).getD i 0 * (ctA ps i)[t].1))) h1
              refine ⟨lv, .ref p1, _, _, rfl, (dp_nu hlvd).same s9, Nu.new, acc_lit hw x hj6 hpre _, mop_lit hw x hj6 hin hbm, fun p2 h2 => ?_⟩
              have s10 := same_upd (o := .tup (nuL ((acc (nil_ ps.length) ops).getD (ctA ps i)[t].2 0 + (ms ps x j).getD i 0 * (ctA ps i)[t].1))) h2
              have nuP : Nu K (upd (upd H8 p1 (.tup (nuL ((ms ps x j).getD i 0 * (ctA ps i)[t].1)))) p2 (.tup (nuL ((acc (nil_ ps.length) ops).getD (ctA ps i)[t].2 0 + (ms ps x j).getD i 0 * (ctA ps i)[t].1)))) (.ref p2) _ := Nu.new
              have s910 := s9.trans s10
              have er10 := s910 _ _ er8
              have ha10 := dpAll_same s910 _ _ ha8
              revert nuP s910 er10 ha10
              generalize upd (upd H8 p1 (.tup (nuL ((ms ps x j).getD i 0 * (ctA ps i)[t].1)))) p2 (.tup (nuL ((acc (nil_ ps.length) ops).getD (ctA ps i)[t].2 0 + (ms ps x j).getD i 0 * (ctA ps i)[t].1))) = H10
              intro nuP s910 er10 ha10
              refine ⟨_, rfl, _, rfl, r, ls8, _, (ctA ps i)[t].2, rfl, rfl, er10, ixN_nat (by rw [hll]; exact hto), ?_⟩
              have b11 : But r H10 (upd H10 r (.lst (ls8.set (ctA ps i)[t].2 (.ref p2)))) := But.upd r H10 _
              refine ⟨_, _, _, rfl, b8.trans ((But.of_same s910).trans b11), upd_same, ?_⟩
              have e5 : mopsTo ps (ms ps x j) i ++ ((ctA ps i).take (t + 1)).map (fun b => ((ms ps x j).getD i 0 * b.1, b.2)) = ops ++ [((ms ps x j).getD i 0 * (ctA ps i)[t].1, (ctA ps i)[t].2)] := by
                rw [List.take_add_one, List.getElem?_eq_getElem htl, List.map_append, ← List.append_assoc, hops]
                rfl
              rw [e5, acc_snoc, List.map_set]
              exact but_nus_set b11 er10 ha10 nuP
            · rintro σ H8 ⟨ls8, y8, y9, rfl, b8, er8, ha8⟩
              refine ⟨ls8, _, _, _, _, _, _, rfl, b8.same (s56.trans s7) hr', er8, ?_⟩
              rw [mopsTo_succ]
              rw [hbl, List.take_length] at ha8
              exact ha8
          · rintro σ H4 ⟨ls, y4, y6, y7, y8, y9, y10, rfl, s5, er, hl⟩
            rw [hml] at hl
            refine ⟨_, rfl, r, ls, _, _, _, _, _, _, _, rfl, s3.trans s5, er, hl⟩
      · rintro σ H2 ⟨p, xs, y4, y5, y6, y7, y8, y9, y10, rfl, s2, ep, hm⟩
        exact ⟨_, rfl, q _ H2 s2 (.lst (.inl (.inl ep)) hm)⟩
end
end K20

/-! K20ProgC: runs_of. -/
namespace K20
open PySem PySem.Spec PyProof.Rows L2

/-! ### two lists side by side -/
def All2 {α : Type} (R : V → α → Prop) (vs : List V) (as : List α) : Prop := vs.length = as.length ∧ ∀ (i : Nat) (v : V) (a : α), vs[i]? = some v → as[i]? = some a → R v a
section
variable {α : Type} {R R' : V → α → Prop} {vs ws : List V} {as bs : List α}
theorem All2.nil : All2 R [] ([] : List α) := ⟨rfl, fun i v a e _ => by simp at e⟩
theorem All2.one {v : V} {a : α} (h : R v a) : All2 R [v] [a] := ⟨rfl, fun i x b e1 e2 => by
  cases i with
  | zero =>
    have h1 : v = x := Option.some.inj e1
    have h2 : a = b := Option.some.inj e2
    rw [← h1, ← h2]
    exact h
  | succ i => simp at e1⟩
theorem All2.app (h : All2 R vs as) (k : All2 R ws bs) : All2 R (vs ++ ws) (as ++ bs) := by
  refine ⟨by rw [List.length_append, List.length_append, h.1, k.1], fun i v a e1 e2 => ?_⟩
  by_cases hi : i < vs.length
  · rw [List.getElem?_append_left hi] at e1
    rw [List.getElem?_append_left (by rw [← h.1]; exact hi)] at e2
    exact h.2 i v a e1 e2
  · rw [List.getElem?_append_right (by omega)] at e1
    rw [List.getElem?_append_right (by rw [← h.1]; omega), ← h.1] at e2
    exact k.2 _ v a e1 e2
theorem All2.mono (h : All2 R vs as) (m : ∀ v a, a ∈ as → R v a → R' v a) : All2 R' vs as := ⟨h.1, fun i v a e1 e2 => m v a (List.mem_of_getElem? e2) (h.2 i v a e1 e2)⟩
theorem All2.get (h : All2 R vs as) {i : Nat} {v : V} (e : vs[i]? = some v) : ∃ a, as[i]? = some a ∧ R v a := by
  have hi : i < as.length := by
    rw [← h.1]
    exact (List.getElem?_eq_some_iff.mp e).1
  exact ⟨as[i], List.getElem?_eq_getElem hi, h.2 i v _ e (List.getElem?_eq_getElem hi)⟩
theorem All2.getA (h : All2 R vs as) {i : Nat} {a : α} (e : as[i]? = some a) : ∃ v, vs[i]? = some v ∧ R v a := by
  have hi : i < vs.length := by
    rw [h.1]
    exact (List.getElem?_eq_some_iff.mp e).1
  exact ⟨vs[i], List.getElem?_eq_getElem hi, h.2 i _ a (List.getElem?_eq_getElem hi) e⟩
end

/-! ### runs in the heap -/
/-- a pair of a run and its chance; the run's own list is one of Z -/
def RunX (K : PySem.W.Frag) (Z : Addr → Prop) (H : Hp) (v : V) (rc : Run) : Prop := ∃ (t a : Addr) (cv : V), v = .ref t ∧ SqT K H t [.ref a, cv] ∧ H a = some (.lst (rc.1.map natV)) ∧ Z a ∧ Nu K H cv rc.2
section
variable {K : PySem.W.Frag} {Z Z' : Addr → Prop} {H H' : Hp} {v : V} {rc : Run} {r : Addr} {ls : List V}
theorem RunX.same (h : RunX K Z H v rc) (e : Same H H') : RunX K Z H' v rc := by
  obtain ⟨t, a, cv, rfl, h1, h2, h3, h4⟩ := h
  exact ⟨t, a, cv, rfl, Same.seqT e h1, e _ _ h2, h3, h4.same e⟩
theorem RunX.but (h : RunX K Z H v rc) (b : But r H H') (hr : H r = some (.lst ls)) (hz : ∀ a, Z a → a ≠ r) : RunX K Z H' v rc := by
  obtain ⟨t, a, cv, rfl, h1, h2, h3, h4⟩ := h
  exact ⟨t, a, cv, rfl, but_T b hr h1, b _ _ (hz a h3) h2, h3, but_nu b hr h4⟩
theorem RunX.weak (h : RunX K Z H v rc) (hz : ∀ a o, H a = some o → Z a → Z' a) : RunX K Z' H v rc := by
  obtain ⟨t, a, cv, rfl, h1, h2, h3, h4⟩ := h
  exact ⟨t, a, cv, rfl, h1, h2, hz a _ h2 h3, h4⟩
theorem RunX.ref (h : RunX K Z H v rc) : ∃ t, v = .ref t := by
  obtain ⟨t, a, cv, e, _⟩ := h
  exact ⟨t, e⟩
end

/-! ### the ways, sorted -/
theorem up_eq : ∀ {a b : List Int}, a.Pairwise (· < ·) → b.Pairwise (· < ·) → (∀ k, k ∈ a ↔ k ∈ b) → a = b
  | [], [], _, _, _ => rfl
  | [], y :: b, _, _, h => by
    have := (h y).mpr List.mem_cons_self
    cases this
  | x :: a, [], _, _, h => by
    have := (h x).mp List.mem_cons_self
    cases this
  | x :: a, y :: b, ha, hb, h => by
    have ha' := List.pairwise_cons.mp ha
    have hb' := List.pairwise_cons.mp hb
    have e : x = y := by
      rcases List.mem_cons.mp ((h x).mp List.mem_cons_self) with q | q
      · exact q
      · rcases List.mem_cons.mp ((h y).mpr List.mem_cons_self) with p | p
        · exact p.symm
        · have h1 := ha'.1 y p
          have h2 := hb'.1 x q
          omega
    subst e
    rw [up_eq ha'.2 hb'.2 fun k => ?_]
    constructor
    · intro hk
      rcases List.mem_cons.mp ((h k).mp (List.mem_cons_of_mem _ hk)) with q | q
      · have := ha'.1 k hk
        omega
      · exact q
    · intro hk
      rcases List.mem_cons.mp ((h k).mpr (List.mem_cons_of_mem _ hk)) with q | q
      · have := hb'.1 k hk
        omega
      · exact q
theorem ways_up (n : Nat) (p : Pl) : ((ways n p).map fun t : Nat => (t : Int)).Pairwise (· < ·) := List.pairwise_map.mpr (ways_lt.imp fun h => by omega)
theorem ways_is {n : Nat} {p : Pl} (h : WfP n p) {ns : List Int} (hp : ns.Pairwise (· < ·)) (hm : ∀ k : Int, k ∈ ns ↔ decide (k ∈ p.tg.map fun t : Nat => (t : Int)) = true) : ns = (ways n p).map fun t : Nat => (t : Int) := by
  refine up_eq hp (ways_up n p) fun k => ?_
  rw [hm k, decide_eq_true_eq]
  constructor
  · intro hk
    obtain ⟨t, ht, e⟩ := List.mem_map.mp hk
    exact List.mem_map.mpr ⟨t, ways_mem.mpr ⟨tg_lt h ht, ht⟩, e⟩
  · intro hk
    obtain ⟨t, ht, e⟩ := List.mem_map.mp hk
    exact List.mem_map.mpr ⟨t, (ways_mem.mp ht).2, e⟩
theorem tg_len {n : Nat} {p : Pl} (h : WfP n p) : p.tg.length ≤ 6 := by
  cases p with
  | draw bs =>
    show (bs.map (·.2)).length ≤ 6
    rw [List.length_map]
    exact wf_bs h
  | rew q x => exact (by decide : 1 ≤ 6)
  | fin => exact (by decide : 0 ≤ 6)
  | lose => exact (by decide : 0 ≤ 6)
theorem last_at {r : List Nat} (h : r ≠ []) : atI (r.map natV) (-1) = some (natV (lastN r)) := by
  have e : r = r.dropLast ++ [r.getLast h] := (List.dropLast_concat_getLast h).symm
  have e2 : lastN r = r.getLast h := by
    unfold lastN
    rw [List.getLastD_eq_getLast?, List.getLast?_eq_getLast h]
    rfl
  rw [e2]
  have e3 : r.map natV = r.dropLast.map natV ++ [natV (r.getLast h)] := by
    rw [← List.map_singleton (f := natV), ← List.map_append, ← e]
  rw [e3]
  exact atI_last _ _
theorem rn_take {ps : List Pl} {x k j : Nat} {rc : Run} (h : (rn ps x k)[j]? = some rc) : ((rn ps x k).take (j + 1)).flatMap (nx ps) = ((rn ps x k).take j).flatMap (nx ps) ++ nx ps rc := by
  rw [List.take_add_one, h, List.flatMap_append]
  show _ ++ (([rc] : List Run).flatMap (nx ps)) = _
  rw [List.flatMap_singleton]
theorem nx_end {ps : List Pl} {rc : Run} (h : ways ps.length (pAt ps (lastN rc.1)) = []) : nx ps rc = [rc] := if_pos h
theorem nx_on {ps : List Pl} {rc : Run} (h : ways ps.length (pAt ps (lastN rc.1)) ≠ []) : nx ps rc = (ways ps.length (pAt ps (lastN rc.1))).map fun t => (rc.1 ++ [t], rc.2 * at_ t (ctA ps (lastN rc.1))) := if_neg h
theorem big6 {n k : Nat} (h : n ≤ 10 ^ k) (hk : k ≤ 6) : n < sizeLine := by
  have h1 : 10 ^ k ≤ 10 ^ 6 := Nat.pow_le_pow_right (by decide) hk
  have h2 : 10 ^ 6 < sizeLine := by decide
  omega
theorem pre_len {ps : List Pl} (h : Wf ps) {x k : Nat} {l : List Run} (hl : l <+: rn ps x k) (hk : k ≤ 6) : l.length < sizeLine := big6 (Nat.le_trans hl.length_le (rn_len h x k)) hk
theorem flat_pre {ps : List Pl} {x k j : Nat} : ((rn ps x k).take j).flatMap (nx ps) <+: rn ps x (k + 1) := by
  show _ <+: (rn ps x k).flatMap (nx ps)
  have e : (rn ps x k).flatMap (nx ps) = ((rn ps x k).take j).flatMap (nx ps) ++ ((rn ps x k).drop j).flatMap (nx ps) := by
    rw [← List.flatMap_append, List.take_append_drop]
  rw [e]
  exact List.prefix_append _ _
theorem flat_pre2 {ps : List Pl} {x k j i : Nat} {rc : Run} (h : (rn ps x k)[j]? = some rc) : ((rn ps x k).take j).flatMap (nx ps) ++ (nx ps rc).take i <+: rn ps x (k + 1) := by
  refine List.IsPrefix.trans ?_ (flat_pre (j := j + 1))
  rw [rn_take h]
  exact (List.prefix_append_right_inj _).mpr (List.take_prefix _ _)
theorem rn_lit {ps : List Pl} (h : Wf ps) {x : Nat} (hx : x < ps.length) {k : Nat} (hk : k ≤ 6) {rc : Run} (hm : rc ∈ rn ps x k) : Lit rc.2 :=
  Wd.lit6 hk (Nat.le_trans (Nat.pow_le_pow_right (by decide) hk) (by decide)) (rn_wd h hx k rc hm)
theorem at_lit {ps : List Pl} (h : Wf ps) {l : Nat} (hl : l < ps.length) (t : Nat) : Lit (at_ t (ctA ps l)) := by
  have q : Wd (M0 ^ 1) 6 (at_ t (ctA ps l)) := (ct_at_wd h hl t).mono (by rw [Nat.pow_one]; exact Nat.dvd_refl _) (Nat.le_refl _)
  exact q.lit6 (by decide) (by decide)

def spRuns (K : PySem.W.Frag) : Sp := fun vs H Q _ => ∃ (c : Addr) (ps : List Pl) (x k : Nat), vs = [.ref c, natV x, natV k] ∧ Dp K H (.ref c) (chD ps) ∧ Wf ps ∧ x < ps.length ∧ k ≤ 6 ∧
  ∀ p xs H', Same H H' → H p = none → H' p = some (.lst xs) → All2 (RunX K (fun a => H a = none) H') xs (rn ps x k) → Q (.ref p) H'

section
variable {P : Program} {w : World} {K : PySem.W.Frag} {mg : Str → Option Value} {base : Heap}
theorem scRuns : FnScope ["chain", "place", "steps", "found", "_", "longer", "run", "chance", "behind", "target"] ["chain", "place", "steps"] (defScope sRunsOf) := ⟨rfl, rfl, rfl, by decide +kernel, rfl, by decide +kernel, by decide +kernel⟩
theorem ok_runs {f : Addr} {fd : FuncData} (F : Fun K "runs_of" "runs_of" sRunsOf f fd) (T : Txt K mg) (cG : C8.Cal P w K mg base 1 "targets" (spTargets K) []) (cS : C8.Cal P w K mg base 3 "step_chance" (spStep K) []) (cT : C8.Cal P w K mg base 2 "times" (spTimes K) []) :
    FnOk P w K mg base CX0 4 f fd ["chain", "place", "steps"] (spRuns K) := by
  obtain ⟨aO, gO, hO⟩ := T.one
  refine F.ok scRuns (fun vs H Q E h => ?_) (fun cdv A outer s H vs Q E hr h => ?_)
  · obtain ⟨c, ps, x, k, rfl, _⟩ := h
    rfl
  · obtain ⟨c, ps, x, k, rfl, hd, hw, hx, hk, q⟩ := h
    have nd := scRuns.nd
    refine ⟨_, pss_cons (ps_set (i := 3) nd rfl (.inl rfl) (pe_lst (pa_cons (pe_tup (pa_cons (pe_lst (pa_cons (pv 1) pa_nil)) (pa_cons (pe_glob (v := .ref aO) (by rfl) gO rfl) pa_nil))) pa_nil)))
      (pss_cons (ps_for PassesOwn.never rfl (pi_range1 rfl T.range (pa_cons (pv 2) pa_nil)) (pg_name (i := 4) nd rfl (.inl rfl))
        (pss_cons (ps_set (i := 5) nd rfl (.inl rfl) (pe_lst pa_nil))
        (pss_cons (ps_for PassesOwn.never rfl (pi_list (pe_callTy call_list_of (by rfl) T.list (by decide +kernel) (pa_cons (pv 3) pa_nil))) (pg_tup rfl (pgs_cons (pg_name (i := 6) nd rfl (.inl rfl)) (pgs_cons (pg_name (i := 7) nd rfl (.inl rfl)) pgs_nil)))
          (pss_cons (ps_set (i := 8) nd rfl (.inl rfl) (pe_callB (cr_sortedSet rfl) (by rfl) T.sorted (by decide +kernel) (pa_cons (pe_callTy (cr_setL rfl) (by rfl) T.set (by decide +kernel)
              (pa_cons (C8.pe_c cG hr (by decide) (by rfl) (pa_cons (pv 0) (pa_cons (pe_ix ix_list (pv 6) (pe_un un_neg pe_int) (fun _ _ => rfl)) pa_nil))) pa_nil)) pa_nil)))
          (pss_cons (ps_if (pt_not (pt_truth (pv 8) (by intro _; rfl))) (pss_one (ps_expr (pe_bm PySem.F.plainAttrs_list PySem.F.slot_list_append PySem.F.type_list_append mt_append (pv 5) (pa_cons (pe_tup (pa_cons (pv 6) (pa_cons (pv 7) pa_nil))) pa_nil)))) pss_nil)
          (pss_one (ps_for PassesOwn.never rfl (pi_list (pv 8)) (pg_name (i := 9) nd rfl (.inl rfl))
            (pss_one (ps_expr (pe_bm PySem.F.plainAttrs_list PySem.F.slot_list_append PySem.F.type_list_append mt_append (pv 5) (pa_cons (pe_tup
              (pa_cons (pe_op op_cat (pv 6) (pe_lst (pa_cons (pv 9) pa_nil)))
              (pa_cons (C8.pe_c cT hr (by decide) (by rfl) (pa_cons (pv 7) (pa_cons (C8.pe_c cS hr (by decide) (by rfl) (pa_cons (pv 0) (pa_cons (pe_ix ix_list (pv 6) (pe_un un_neg pe_int) (fun _ _ => rfl)) (pa_cons (pv 9) pa_nil)))) pa_nil))) pa_nil))) pa_nil)))))))))
        (pss_one (ps_set (i := 3) nd rfl (.inl rfl) (pv 5))))))
      (pss_one (ps_ret (pv 3)))), ?_⟩
    -- found = [([place], ONE)]
    refine ⟨_, rfl, (by show 1 ≤ sizeLine; decide), fun a1 h1 => ⟨(by show 2 ≤ sizeLine; decide), fun t1 h2 => ⟨(by show 1 ≤ sizeLine; decide), fun p1 h3 => ?_⟩⟩⟩
    have s1 := same_upd (o := .lst [natV x]) h1
    have s2 := same_upd (o := .tup [.ref a1, .ref aO]) h2
    have s3 := same_upd (o := .lst [.ref t1]) h3
    have s13 := (s1.trans s2).trans s3
    have r0 : RunX K (fun a => H a = none) (upd (upd (upd H a1 (.lst [natV x])) t1 (.tup [.ref a1, .ref aO])) p1 (.lst [.ref t1])) (.ref t1) ([x], 1) :=
      ⟨t1, a1, .ref aO, rfl, Same.seqT s3 (.inl (.inl upd_same)), (s2.trans s3) _ _ upd_same, h1, ⟨aO, rfl, hO _⟩⟩
    -- for _ in range(steps)
    refine ⟨_, rfl, (k : Int), rfl, by omega, by omega, for_range (lo := 0) (n := k) (fun j σ H1 => ∃ (p : Addr) (xs : List V) (y4 y5 y6 y7 y8 y9 : Option V), σ = [some (.ref c), some (natV x), some (natV k), some (.ref p), y4, y5, y6, y7, y8, y9] ∧
        Same H H1 ∧ H p = none ∧ H1 p = some (.lst xs) ∧ All2 (RunX K (fun a => H a = none) H1) xs (rn ps x j))
      ⟨p1, [.ref t1], _, _, _, _, _, _, rfl, s13, (s1.trans s2).free h3, upd_same, All2.one r0⟩ ?_ ?_⟩
    · rintro j σ H1 hj ⟨p, xs, y4, y5, y6, y7, y8, y9, rfl, sH, hp, ep, hx1⟩
      have hj6 : j + 1 ≤ 6 := by omega
      -- longer = []
      refine ⟨(by show 0 ≤ sizeLine; decide), fun L hL => ?_⟩
      have sL := same_upd (o := .lst []) hL
      -- list(found)
      refine ⟨_, rfl, p, xs, rfl, .inl (.inl (.inl (sL _ _ ep))), fun g hg => ?_⟩
      have sg := same_upd (o := .lst xs) hg
      have hgL : g ≠ L := fun z => by
        rw [z, upd_same] at hg
        cases hg
      have eL0 : (upd (upd H1 L (.lst [])) g (.lst xs)) L = some (.lst []) := sg _ _ upd_same
      have eg0 : (upd (upd H1 L (.lst [])) g (.lst xs)) g = some (.lst xs) := upd_same
      have s1g : Same H1 (upd (upd H1 L (.lst [])) g (.lst xs)) := sL.trans sg
      revert eL0 eg0 s1g
      generalize upd (upd H1 L (.lst [])) g (.lst xs) = Hg
      intro eL0 eg0 s1g
      have hLH : H L = none := sH.free hL
      refine ⟨g, rfl, ⟨xs, .inl (.inl eg0)⟩, for_list (K := K) (a := g) (xs := xs)
        (fun i σ H2 => ∃ (ls : List V) (y4 y6 y7 y8 y9 : Option V), σ = [some (.ref c), some (natV x), some (natV k), some (.ref p), y4, some (.ref L), y6, y7, y8, y9] ∧ But L Hg H2 ∧ H2 L = some (.lst ls) ∧
          All2 (RunX K (fun a => H a = none ∧ a ≠ L) H2) ls (((rn ps x j).take i).flatMap (nx ps)))
        ⟨[], _, _, _, _, _, rfl, But.refl L Hg, eL0, All2.nil⟩ (fun i σ H2 _ ⟨_, _, _, _, _, _, _, b2, _⟩ => but_L b2 hgL (.inl (.inl eg0))) ?_ ?_⟩
      · rintro i v σ H2 hi ⟨ls, y4, y6, y7, y8, y9, rfl, b2, eL, hls⟩
        obtain ⟨rc, erc, hrc0⟩ := hx1.get hi
        have hmem : rc ∈ rn ps x j := List.mem_of_getElem? erc
        have s12 : Same H1 H2 := b2.same s1g hL
        have sH2 : Same H H2 := sH.trans s12
        have hrc1 : RunX K (fun a => H a = none ∧ a ≠ L) H1 v rc := hrc0.weak fun a o ea za => ⟨za, fun z => by rw [z, hL] at ea; cases ea⟩
        have hrc : RunX K (fun a => H a = none ∧ a ≠ L) H2 v rc := hrc1.same s12
        obtain ⟨hne, hall, hlast, hrl⟩ := rn_last hx j rc hmem
        have hwl := wf_at hw hlast
        have hrc' := hrc
        obtain ⟨t, a, cv, rfl, ht, ha, ⟨za, zL⟩, hcv⟩ := hrc'
        refine ⟨t, _, rfl, ht, rfl, .ref a, _, rfl, cv, [], rfl, rfl, ?_⟩
        -- behind = sorted(set(targets(chain, run[-1])))
        refine ⟨_, rfl, _, rfl, _, rfl, a, _, -1, _, rfl, rfl, .inl (.inl ha), last_at hne, c, ps, lastN rc.1, rfl, dp_same sH2 _ _ hd, hw, hlast, fun q1 H3 s3 hq1 eq1 => ?_⟩
        have tl := tg_len hwl
        refine ⟨q1, (pAt ps (lastN rc.1)).tg.map (fun t : Nat => (t : Int)), rfl, .inl (.inl (by rw [eq1, List.map_map]; rfl)), by rw [List.length_map]; omega, fun q2 cn hq2 hcn => ?_⟩
        rw [List.length_map] at hcn
        refine ⟨q2, _, cn, rfl, upd_same, by omega, fun ns q3 hns hnm _ hq3 => ?_⟩
        dsimp only [cxOf, Cx.nox] at hq3 ⊢
        have ens := ways_is hwl hns hnm
        have s4 := same_upd (o := SetO w q2 (fun j => decide (j ∈ (pAt ps (lastN rc.1)).tg.map (fun t : Nat => (t : Int)))) cn) hq2
        have s5 := same_upd (o := .lst (ns.map V.int)) hq3
        have s35 := (s3.trans s4).trans s5
        have eq3 : (upd (upd H3 q2 (SetO w q2 (fun j => decide (j ∈ (pAt ps (lastN rc.1)).tg.map (fun t : Nat => (t : Int)))) cn)) q3 (.lst (ns.map V.int))) q3 = some (.lst ((ways ps.length (pAt ps (lastN rc.1))).map natV)) := by
          rw [upd_same, ens, List.map_map]
          rfl
        have hq3L : q3 ≠ L := fun z => by
          have z2 : (upd H3 q2 (SetO w q2 (fun j => decide (j ∈ (pAt ps (lastN rc.1)).tg.map (fun t : Nat => (t : Int)))) cn)) L = some (.lst ls) := (s3.trans s4) _ _ eL
          rw [z, z2] at hq3
          cases hq3
        revert s35 eq3
        generalize upd (upd H3 q2 (SetO w q2 (fun j => decide (j ∈ (pAt ps (lastN rc.1)).tg.map (fun t : Nat => (t : Int)))) cn)) q3 (.lst (ns.map V.int)) = H5
        intro s35 eq3
        have eL5 := s35 _ _ eL
        have b25 : But L Hg H5 := b2.trans (But.of_same s35)
        have hls5 : All2 (RunX K (fun a => H a = none ∧ a ≠ L) H5) ls (((rn ps x j).take i).flatMap (nx ps)) := hls.mono fun v a _ z => z.same s35
        have hrc5 := hrc.same s35
        have lsl : ls.length < sizeLine := by
          rw [hls5.1]
          exact pre_len hw flat_pre hj6
        -- if not behind
        refine ⟨_, rfl, !((ways ps.length (pAt ps (lastN rc.1))).map natV).isEmpty, .inl ⟨_, .inl (.inl eq3), rfl⟩, ?_⟩
        have wl : ((ways ps.length (pAt ps (lastN rc.1))).map natV).length = (ways ps.length (pAt ps (lastN rc.1))).length := List.length_map _
        by_cases hwy : ways ps.length (pAt ps (lastN rc.1)) = []
        · -- the run has ended
          rw [hwy]
          refine iteT ?_
          refine ⟨_, rfl, .inl ⟨rfl, _, .inl (.inl eL5)⟩, _, rfl, _, rfl, (by show 2 ≤ sizeLine; decide), fun t6 ht6 => ?_⟩
          have s6 := same_upd (o := .tup [.ref a, cv]) ht6
          refine ⟨L, ls, .ref t6, rfl, rfl, s6 _ _ eL5, lsl, ?_⟩
          have b67 := But.upd L (upd H5 t6 (.tup [.ref a, cv])) (.lst (ls ++ [.ref t6]))
          have r6 : RunX K (fun a => H a = none ∧ a ≠ L) (upd H5 t6 (.tup [.ref a, cv])) (.ref t6) rc := ⟨t6, a, cv, rfl, .inl (.inl upd_same), s6 _ _ (s35 _ _ ha), ⟨za, zL⟩, hcv.same (s35.trans s6)⟩
          have hls7 : All2 (RunX K (fun a => H a = none ∧ a ≠ L) (upd (upd H5 t6 (.tup [.ref a, cv])) L (.lst (ls ++ [.ref t6])))) (ls ++ [.ref t6]) (((rn ps x j).take (i + 1)).flatMap (nx ps)) := by
            rw [rn_take erc, nx_end hwy]
            refine All2.app (hls5.mono fun v a _ z => (z.same s6).but b67 (s6 _ _ eL5) fun a za => za.2) (All2.one (r6.but b67 (s6 _ _ eL5) fun a za => za.2))
          have b57 : But L Hg (upd (upd H5 t6 (.tup [.ref a, cv])) L (.lst (ls ++ [.ref t6]))) := (b25.trans (But.of_same s6)).trans b67
          have eq7 : (upd (upd H5 t6 (.tup [.ref a, cv])) L (.lst (ls ++ [.ref t6]))) q3 = some (.lst []) := by
            rw [hwy] at eq3
            exact b67 _ _ hq3L (s6 _ _ eq3)
          have eL7 : (upd (upd H5 t6 (.tup [.ref a, cv])) L (.lst (ls ++ [.ref t6]))) L = some (.lst (ls ++ [.ref t6])) := upd_same
          revert hls7 b57 eq7 eL7
          generalize upd (upd H5 t6 (.tup [.ref a, cv])) L (.lst (ls ++ [.ref t6])) = H7
          intro hls7 b57 eq7 eL7
          refine ⟨_, rfl, q3, rfl, ⟨[], .inl (.inl eq7)⟩, for_list (K := K) (a := q3) (xs := []) (fun u σ H8 => H8 = H7 ∧ σ = [some (.ref c), some (natV x), some (natV k), some (.ref p), y4, some (.ref L), some (.ref a), some cv, some (.ref q3), y9])
            ⟨rfl, rfl⟩ (fun u σ H8 _ z => by rw [z.1]; exact .inl (.inl eq7)) (fun u v σ H8 e _ => by simp at e) ?_⟩
          rintro σ H8 ⟨rfl, rfl⟩
          exact ⟨_, _, _, _, _, _, rfl, b57, eL7, hls7⟩
        · -- it goes on
          have hemp : (!((ways ps.length (pAt ps (lastN rc.1))).map natV).isEmpty) = true := by
            cases e : ways ps.length (pAt ps (lastN rc.1)) with
            | nil => exact absurd e hwy
            | cons z l => rfl
          rw [hemp]
          refine iteF ?_
          refine ⟨_, rfl, q3, rfl, ⟨_, .inl (.inl eq3)⟩, for_list (K := K) (a := q3) (xs := (ways ps.length (pAt ps (lastN rc.1))).map natV)
            (fun u σ H8 => ∃ (ls8 : List V) (y9 : Option V), σ = [some (.ref c), some (natV x), some (natV k), some (.ref p), y4, some (.ref L), some (.ref a), some cv, some (.ref q3), y9] ∧ But L H5 H8 ∧ H8 L = some (.lst ls8) ∧
              All2 (RunX K (fun a => H a = none ∧ a ≠ L) H8) ls8 (((rn ps x j).take i).flatMap (nx ps) ++ (nx ps rc).take u))
            ⟨ls, _, rfl, But.refl L H5, eL5, by rw [List.take_zero, List.append_nil]; exact hls5⟩ (fun u σ H8 _ ⟨_, _, _, b8, _⟩ => but_L b8 hq3L (.inl (.inl eq3))) ?_ ?_⟩
          · rintro u y σ H8 hu ⟨ls8, y9, rfl, b8, eL8, hls8⟩
            rw [List.getElem?_map] at hu
            obtain ⟨tt, ett, ey⟩ := Option.map_eq_some_iff.mp hu
            subst ey
            have htm : tt ∈ ways ps.length (pAt ps (lastN rc.1)) := List.mem_of_getElem? ett
            have htn := (ways_mem.mp htm).1
            have enx : (nx ps rc)[u]? = some (rc.1 ++ [tt], rc.2 * at_ tt (ctA ps (lastN rc.1))) := by
              rw [nx_on hwy, List.getElem?_map, ett]
              rfl
            have s18 : Same H1 H8 := (b25.trans b8).same s1g hL
            have sH8 := sH.trans s18
            obtain ⟨t', a', cv', et', hT', ha', ⟨za', zL'⟩, hcv'⟩ := hrc5.but b8 eL5 fun a za => za.2
            have hT5 : SqT K H5 t [.ref a, cv] := Same.seqT s35 ht
            have ha8 : H8 a = some (.lst (rc.1.map natV)) := b8 _ _ zL (s35 _ _ ha)
            have hcv8 : Nu K H8 cv rc.2 := but_nu b8 eL5 (hcv.same s35)
            -- longer.append((run + [target], times(chance, step_chance(chain, run[-1], target))))
            refine ⟨_, rfl, .inl ⟨rfl, _, .inl (.inl eL8)⟩, _, rfl, _, rfl, (by show 1 ≤ sizeLine; decide), fun w1 hw1 => ?_⟩
            have t1 := same_upd (o := .lst [natV tt]) hw1
            refine ⟨a, w1, _, _, rfl, rfl, t1 _ _ ha8, upd_same, ?_, fun w2 hw2 => ?_⟩
            · rw [List.length_map]
              show rc.1.length + 1 ≤ sizeLine
              have := small1000 (show rc.1.length + 1 ≤ 1000 by omega)
              omega
            · have t2 := same_upd (o := .lst (rc.1.map natV ++ [natV tt])) hw2
              have t12 := t1.trans t2
              have ew2 : (upd (upd H8 w1 (.lst [natV tt])) w2 (.lst (rc.1.map natV ++ [natV tt]))) w2 = some (.lst ((rc.1 ++ [tt]).map natV)) := by
                rw [upd_same, List.map_append]
                rfl
              have hw2L : w2 ≠ L := fun z => by
                rw [z, t1 _ _ eL8] at hw2
                cases hw2
              have hw2H : H w2 = none := (sH8.trans t1).free hw2
              revert t12 ew2
              generalize upd (upd H8 w1 (.lst [natV tt])) w2 (.lst (rc.1.map natV ++ [natV tt])) = H9
              intro t12 ew2
              refine ⟨_, rfl, _, rfl, _, rfl, _, rfl, a, _, -1, _, rfl, rfl, .inl (.inl (t12 _ _ ha8)), last_at hne, _, rfl, c, ps, lastN rc.1, tt, rfl, dp_same (sH8.trans t12) _ _ hd, hw, hlast, fun sv H10 s10 hsv => ?_⟩
              have t13 := t12.trans s10
              refine ⟨cv, sv, rc.2, _, rfl, hcv8.same t13, hsv, rn_lit hw hx (by omega) hmem, at_lit hw hlast tt, fun w3 hw3 => ⟨(by show 2 ≤ sizeLine; decide), fun w4 hw4 => ?_⟩⟩
              have s11 := same_upd (o := .tup (nuL (rc.2 * at_ tt (ctA ps (lastN rc.1))))) hw3
              have s12' := same_upd (o := .tup [.ref w2, .ref w3]) hw4
              have t14 := (t13.trans s11).trans s12'
              have rN : RunX K (fun a => H a = none ∧ a ≠ L) (upd (upd H10 w3 (.tup (nuL (rc.2 * at_ tt (ctA ps (lastN rc.1)))))) w4 (.tup [.ref w2, .ref w3])) (.ref w4) (rc.1 ++ [tt], rc.2 * at_ tt (ctA ps (lastN rc.1))) :=
                ⟨w4, w2, .ref w3, rfl, .inl (.inl upd_same), ((s10.trans s11).trans s12') _ _ ew2, ⟨hw2H, hw2L⟩, Nu.new.same s12'⟩
              revert t14 rN
              generalize upd (upd H10 w3 (.tup (nuL (rc.2 * at_ tt (ctA ps (lastN rc.1)))))) w4 (.tup [.ref w2, .ref w3]) = H11
              intro t14 rN
              have ls8l : ls8.length < sizeLine := by
                rw [hls8.1]
                exact pre_len hw (flat_pre2 erc) hj6
              refine ⟨L, ls8, .ref w4, rfl, rfl, t14 _ _ eL8, ls8l, ?_⟩
              have bL := But.upd L H11 (.lst (ls8 ++ [.ref w4]))
              refine ⟨_, _, rfl, b8.trans ((But.of_same t14).trans bL), upd_same, ?_⟩
              rw [List.take_add_one, enx, ← List.append_assoc]
              exact All2.app (hls8.mono fun v a _ z => (z.same t14).but bL (t14 _ _ eL8) fun a za => za.2) (All2.one (rN.but bL (t14 _ _ eL8) fun a za => za.2))
          · rintro σ H8 ⟨ls8, y9, rfl, b8, eL8, hls8⟩
            have el : (nx ps rc).length = (ways ps.length (pAt ps (lastN rc.1))).length := by rw [nx_on hwy, List.length_map]
            rw [wl, ← el, List.take_length, ← rn_take erc] at hls8
            exact ⟨ls8, _, _, _, _, _, rfl, b25.trans b8, eL8, hls8⟩
      · rintro σ H2 ⟨ls, y4, y6, y7, y8, y9, rfl, b2, eL, hls⟩
        rw [hx1.1, List.take_length] at hls
        exact ⟨_, rfl, L, ls, _, _, _, _, _, _, rfl, b2.same (sH.trans s1g) hLH, hLH, eL, hls.mono fun v a _ z => z.weak fun _ _ _ zz => zz.1⟩
    · rintro σ H1 ⟨p, xs, y4, y5, y6, y7, y8, y9, rfl, sH, hp, ep, hx1⟩
      exact ⟨_, rfl, q p xs H1 sH hp ep hx1⟩
end
end K20

/-! K20LawB: the law's own targets, steps, runs, chances, numbers. -/
namespace K20
open PySem PySem.Spec PyProof.Rows L2

def spLTargets (K : PySem.W.Frag) : Sp := fun vs H Q _ => ∃ (v : V) (n : Nat) (p : Pl), vs = [v] ∧ Dp K H v (plD p) ∧ WfP n p ∧
  ∀ l H', Same H H' → H l = none → H' l = some (.lst (p.tg.map natV)) → Q (.ref l) H'
def spLStep (K : PySem.W.Frag) : Sp := fun vs H Q _ => ∃ (v : V) (n t : Nat) (p : Pl), vs = [v, natV t] ∧ Dp K H v (plD p) ∧ WfP n p ∧
  ∀ u H', Same H H' → Nu K H' u (stepC p t) → Q u H'
theorem bs_lit {n : Nat} {bs : List (Rat × Nat)} (h : WfP n (.draw bs)) (t j : Nat) : Lit (at_ t (bs.take j)) := by
  have q := at_wd (C := 1) (D := M0) M0_ne (l := bs.take j) (fun b hb => ((h.drw bs rfl).2.2.1 b (List.mem_of_mem_take hb)).2) t
  have hl : (bs.take j).length ≤ 6 := by
    rw [List.length_take]
    exact Nat.le_trans (Nat.min_le_right _ _) (wf_bs h)
  have q2 : Wd (M0 ^ 1) 6 (at_ t (bs.take j)) := q.mono (by rw [Nat.pow_one]; exact Nat.dvd_refl _) (by omega)
  exact q2.lit6 (by decide) (by decide)
theorem b_lit {n : Nat} {bs : List (Rat × Nat)} (h : WfP n (.draw bs)) {b : Rat × Nat} (hb : b ∈ bs) : Lit b.1 := by
  have q : Wd (M0 ^ 1) 1 b.1 := ((h.drw bs rfl).2.2.1 b hb).2.mono (by rw [Nat.pow_one]; exact Nat.dvd_refl _) (Nat.le_refl _)
  exact q.lit6 (by decide) (by decide)
theorem neD {x : Str} (h : ¬ (V.str x = V.str ("draw" : Str))) : (!decide (V.str x = V.str ("draw" : Str))) = true := by
  rw [decide_eq_false h]
  rfl

section
variable {P : Program} {w : World} {K : PySem.W.Frag} {mg : Str → Option Value} {base : Heap}
theorem scLTargets : FnScope ["_law_place_here", "_law_branch"] ["_law_place_here"] (defScope sLTargets) := ⟨rfl, rfl, rfl, by decide +kernel, rfl, by decide +kernel, by decide +kernel⟩
theorem ok_ltargets {f : Addr} {fd : FuncData} (F : Fun K "_law_targets" "_law_targets" sLTargets f fd) (T : Txt K mg) : FnOk P w K mg base CX0 1 f fd ["_law_place_here"] (spLTargets K) := by
  refine F.ok scLTargets (fun vs H Q E h => ?_) (fun cdv A outer s H vs Q E hr h => ?_)
  · obtain ⟨v, n, p, rfl, _⟩ := h
    rfl
  · obtain ⟨v, n, p, rfl, hp, hwp, k⟩ := h
    have nd := scLTargets.nd
    refine ⟨_, pss_cons (ps_if (pt_cmpR op_eq (pe_ix ix_tup (pv 0) pe_int (fun _ _ => rfl)) pe_str (nomark _))
        (pss_one (ps_ret (pe_lc (own := [("_law_branch", 1)]) (g := gName 1) (tt := tYes) (te := tOp (rIxT K) (tVar 1) (tC (.int 1))) rfl nd (pi_list (pe_ix ix_tup (pv 0) pe_int (fun _ _ => rfl)))
          (blkOk_by (N := ["_law_place_here", "_law_branch"]) (sc := defScope sLTargets) (by decide +kernel))
          (fun _ _ _ _ _ => by exact pg_name (i := 1) nd rfl (.inl rfl)) (fun _ _ _ _ _ => pts_nil) (fun _ _ _ _ _ => by exact pe_ix ix_tup (pv 1) pe_int (fun _ _ => rfl))))) pss_nil)
      (pss_cons (ps_if (pt_cmpR op_eq (pe_ix ix_tup (pv 0) pe_int (fun _ _ => rfl)) pe_str (nomark _)) (pss_one (ps_ret (pe_lst (pa_cons (pe_ix ix_tup (pv 0) pe_int (fun _ _ => rfl)) pa_nil)))) pss_nil)
      (pss_cons (ps_if (PW.pt (pw_or (pt_cmpR op_eq (pe_ix ix_tup (pv 0) pe_int (fun _ _ => rfl)) pe_str (nomark _)) (pw_or1 (pt_cmpR op_eq (pe_ix ix_tup (pv 0) pe_int (fun _ _ => rfl)) pe_str (nomark _))))) (pss_one ps_never) pss_nil)
      (pss_one (ps_ret (pe_lst pa_nil))))), ?_⟩
    revert hp hwp k
    cases p with
    | draw bs =>
      intro hp hwp k
      obtain ⟨t, l, ys, rfl, ht, hy, hb⟩ := dp_draw hp
      have hlen : ys.length = bs.length := by rw [all_len hb, List.length_map]
      refine ⟨_, rfl, t, _, 0, .str "draw", rfl, rfl, ht, atI_nat (j := 0) rfl, rfl, _, rfl, iteY rfl ?_⟩
      refine ⟨_, rfl, t, _, 1, .ref l, rfl, rfl, ht, atI_nat (j := 1) rfl, l, rfl, ⟨_, hy⟩, fun D hD => ?_⟩
      refine lc_list (K := K) (a := l) (xs := ys) (fun j H' => Same H H' ∧ H' D = some (.lst ((bs.take j).map fun b => natV b.2))) ⟨same_upd hD, upd_same⟩ (fun j H' _ q => q.1.seq hy) ?_ ?_
      · rintro j y H' hj ⟨sm', eD⟩
        have hjl : j < bs.length := by
          rw [← hlen]
          exact (List.getElem?_eq_some_iff.mp hj).1
        obtain ⟨d, ed, hdp⟩ := all_getV hb hj
        rw [List.getElem?_map, List.getElem?_eq_getElem hjl] at ed
        have ed' : brD bs[j] = d := Option.some.inj ed
        rw [← ed'] at hdp
        obtain ⟨u, cv, rfl, hu, hn⟩ := dp_br hdp
        refine ⟨rfl, _, rfl, u, _, 1, natV bs[j].2, rfl, rfl, Same.seqT sm' hu, atI_nat (j := 1) rfl, _, eD, ?_, fun b o eo => ?_, ?_⟩
        · rw [List.length_map, List.length_take]
          exact small1000 (Nat.le_trans (Nat.min_le_right _ _) (Nat.le_trans (wf_bs hwp) (by decide)))
        · rw [upd_ne (ne_of_none eo hD)]
          exact sm' b o eo
        · rw [upd_same, List.take_add_one, List.getElem?_eq_getElem hjl, List.map_append]
          rfl
      · rintro H' ⟨sm', eD⟩
        rw [hlen, List.take_length] at eD
        refine k D H' sm' hD ?_
        rw [eD]
        show _ = some (HO.lst ((bs.map (·.2)).map natV))
        rw [List.map_map]
        rfl
    | rew q n =>
      intro hp hwp k
      obtain ⟨t, cv, rfl, ht, hn⟩ := dp_rew hp
      refine ⟨_, rfl, t, _, 0, .str "reward", rfl, rfl, ht, atI_nat (j := 0) rfl, rfl, _, rfl, iteN ne_rd ?_⟩
      refine ⟨_, rfl, t, _, 0, .str "reward", rfl, rfl, ht, atI_nat (j := 0) rfl, rfl, _, rfl, iteY rfl ?_⟩
      refine ⟨_, rfl, t, _, 2, natV n, rfl, rfl, ht, atI_nat (j := 2) rfl, (by show 1 ≤ sizeLine; decide), fun D hD => ?_⟩
      exact k D _ (same_upd hD) hD upd_same
    | fin =>
      intro hp hwp k
      obtain ⟨t, rfl, ht⟩ := dp_fin hp
      refine ⟨_, rfl, t, _, 0, .str "finish", rfl, rfl, ht, atI_nat (j := 0) rfl, rfl, _, rfl, iteN ne_fd ?_⟩
      refine ⟨_, rfl, t, _, 0, .str "finish", rfl, rfl, ht, atI_nat (j := 0) rfl, rfl, _, rfl, iteN ne_fr ?_⟩
      refine ⟨_, rfl, t, _, 0, .str "finish", rfl, rfl, ht, atI_nat (j := 0) rfl, rfl, _, rfl, iteN ne_fo ?_⟩
      refine ⟨_, rfl, t, _, 0, .str "finish", rfl, rfl, ht, atI_nat (j := 0) rfl, rfl, _, rfl, iteN ne_ft ?_⟩
      refine ⟨(by show 0 ≤ sizeLine; decide), fun D hD => ?_⟩
      exact k D _ (same_upd hD) hD upd_same
    | lose =>
      intro hp hwp k
      obtain ⟨t, rfl, ht⟩ := dp_lose hp
      refine ⟨_, rfl, t, _, 0, .str "lose", rfl, rfl, ht, atI_nat (j := 0) rfl, rfl, _, rfl, iteN ne_ld ?_⟩
      refine ⟨_, rfl, t, _, 0, .str "lose", rfl, rfl, ht, atI_nat (j := 0) rfl, rfl, _, rfl, iteN ne_lr ?_⟩
      refine ⟨_, rfl, t, _, 0, .str "lose", rfl, rfl, ht, atI_nat (j := 0) rfl, rfl, _, rfl, iteN ne_lo ?_⟩
      refine ⟨_, rfl, t, _, 0, .str "lose", rfl, rfl, ht, atI_nat (j := 0) rfl, rfl, _, rfl, iteN ne_lt ?_⟩
      refine ⟨(by show 0 ≤ sizeLine; decide), fun D hD => ?_⟩
      exact k D _ (same_upd hD) hD upd_same

theorem scLStep : FnScope ["_law_place_here", "_law_target", "_law_total", "_law_chance_here", "_law_other"] ["_law_place_here", "_law_target"] (defScope sLStep) := ⟨rfl, rfl, rfl, by decide +kernel, rfl, by decide +kernel, by decide +kernel⟩
theorem ok_lstep {f : Addr} {fd : FuncData} (F : Fun K "_law_step" "_law_step" sLStep f fd) (cP : C8.Cal P w K mg base 2 "_law_plus" (spPlus K) []) : FnOk P w K mg base CX0 3 f fd ["_law_place_here", "_law_target"] (spLStep K) := by
  refine F.ok scLStep (fun vs H Q E h => ?_) (fun cdv A outer s H vs Q E hr h => ?_)
  · obtain ⟨v, n, t, p, rfl, _⟩ := h
    rfl
  · obtain ⟨v, n, t, p, rfl, hp, hwp, k⟩ := h
    have nd := scLStep.nd
    refine ⟨_, pss_cons (ps_if (pt_cmpR op_ne (pe_ix ix_tup (pv 0) pe_int (fun _ _ => rfl)) pe_str (nomark _)) (pss_one (ps_ret (pe_tup (pa_cons pe_int (pa_cons pe_int pa_nil))))) pss_nil)
      (pss_cons (ps_set (i := 2) nd rfl (.inl rfl) (pe_tup (pa_cons pe_int (pa_cons pe_int pa_nil))))
      (pss_cons (ps_for PassesOwn.never rfl (pi_list (pe_ix ix_tup (pv 0) pe_int (fun _ _ => rfl))) (pg_tup rfl (pgs_cons (pg_name (i := 3) nd rfl (.inl rfl)) (pgs_cons (pg_name (i := 4) nd rfl (.inl rfl)) pgs_nil)))
        (pss_one (ps_if (pt_cmpR op_eq (pv 4) (pv 1) (nomark _)) (pss_one (ps_set (i := 2) nd rfl (.inl rfl) (C8.pe_c cP hr (by decide) (by rfl) (pa_cons (pv 2) (pa_cons (pv 3) pa_nil))))) pss_nil)))
      (pss_one (ps_ret (pv 2))))), ?_⟩
    have one : ∀ D, H D = none → Nu K (upd H D (.tup [.int 1, .int 1])) (.ref D) 1 := fun D hD => ⟨D, rfl, .inl (.inl upd_same)⟩
    revert hp hwp k
    cases p with
    | draw bs =>
      intro hp hwp k
      obtain ⟨u, l, ys, rfl, ht, hy, hb⟩ := dp_draw hp
      have hlen : ys.length = bs.length := by rw [all_len hb, List.length_map]
      refine ⟨_, rfl, u, _, 0, .str "draw", rfl, rfl, ht, atI_nat (j := 0) rfl, rfl, _, rfl, iteNS rfl ?_⟩
      refine ⟨(by show 2 ≤ sizeLine; decide), fun D hD => ?_⟩
      have s1 := same_upd (o := .tup [.int 0, .int 1]) hD
      refine ⟨_, rfl, u, _, 1, .ref l, rfl, rfl, Same.seqT s1 ht, atI_nat (j := 1) rfl, l, rfl, ⟨ys, s1.seq hy⟩, for_list (K := K) (a := l) (xs := ys)
        (fun j σ H2 => ∃ (fv : V) (y3 y4 : Option V), σ = [some (.ref u), some (natV t), some fv, y3, y4] ∧ Same H H2 ∧ Nu K H2 fv (at_ t (bs.take j)))
        ⟨.ref D, none, none, rfl, s1, ⟨D, rfl, .inl (.inl upd_same)⟩⟩ (fun j σ H2 _ ⟨_, _, _, _, s2, _⟩ => s2.seq hy) ?_ ?_⟩
      · rintro j y σ H2 hj ⟨fv, y3, y4, rfl, s2, hf⟩
        have hjl : j < bs.length := by
          rw [← hlen]
          exact (List.getElem?_eq_some_iff.mp hj).1
        obtain ⟨d, ed, hdp⟩ := all_getV hb hj
        rw [List.getElem?_map, List.getElem?_eq_getElem hjl] at ed
        have ed' : brD bs[j] = d := Option.some.inj ed
        rw [← ed'] at hdp
        obtain ⟨g, cv, rfl, hu, hn⟩ := dp_br hdp
        have et := at_take (t := t) (List.getElem?_eq_getElem hjl)
        refine ⟨g, _, rfl, Same.seqT s2 hu, rfl, cv, _, rfl, natV bs[j].2, [], rfl, rfl, ?_⟩
        refine ⟨_, rfl, _, rfl, rfl, _, rfl, ite2 (fun eq => ?_) (fun ne => ?_)⟩
        · have eq' := nat_eq.mp (of_decide_eq_true eq)
          refine ⟨_, rfl, _, rfl, fv, cv, _, _, rfl, hf, hn.same s2, bs_lit hwp t j, b_lit hwp (List.getElem_mem hjl), fun p hp => ?_⟩
          refine ⟨.ref p, _, _, rfl, s2.trans (same_upd hp), ?_⟩
          rw [et, if_pos eq']
          exact Nu.new
        · have ne' : ¬ bs[j].2 = t := fun z => ne (decide_eq_true (nat_eq.mpr z))
          refine ⟨fv, _, _, rfl, s2, ?_⟩
          rw [et, if_neg ne', Rat.add_zero]
          exact hf
      · rintro σ H2 ⟨fv, y3, y4, rfl, s2, hf⟩
        rw [hlen, List.take_length] at hf
        exact ⟨fv, rfl, k fv H2 s2 hf⟩
    | rew q n =>
      intro hp hwp k
      obtain ⟨u, cv, rfl, ht, hn⟩ := dp_rew hp
      refine ⟨_, rfl, u, _, 0, .str "reward", rfl, rfl, ht, atI_nat (j := 0) rfl, rfl, _, rfl, ?_⟩
      rw [neD ne_rd]
      exact iteT ⟨(by show 2 ≤ sizeLine; decide), fun D hD => k (.ref D) _ (same_upd hD) (one D hD)⟩
    | fin =>
      intro hp hwp k
      obtain ⟨u, rfl, ht⟩ := dp_fin hp
      refine ⟨_, rfl, u, _, 0, .str "finish", rfl, rfl, ht, atI_nat (j := 0) rfl, rfl, _, rfl, ?_⟩
      rw [neD ne_fd]
      exact iteT ⟨(by show 2 ≤ sizeLine; decide), fun D hD => k (.ref D) _ (same_upd hD) (one D hD)⟩
    | lose =>
      intro hp hwp k
      obtain ⟨u, rfl, ht⟩ := dp_lose hp
      refine ⟨_, rfl, u, _, 0, .str "lose", rfl, rfl, ht, atI_nat (j := 0) rfl, rfl, _, rfl, ?_⟩
      rw [neD ne_ld]
      exact iteT ⟨(by show 2 ≤ sizeLine; decide), fun D hD => k (.ref D) _ (same_upd hD) (one D hD)⟩
end
end K20

/-! K20LawC: the law's runs, chances, is_number. -/
namespace K20
open PySem PySem.Spec PyProof.Rows L2

def runD (r : List Nat) : PyData := .list (r.map fun n : Nat => PyData.int (n : Int))
/-- a run's list, one of Z -/
def RunL (Z : Addr → Prop) (H : Hp) (v : V) (r : List Nat) : Prop := ∃ a, v = .ref a ∧ H a = some (.lst (r.map natV)) ∧ Z a
section
variable {Z Z' : Addr → Prop} {H H' : Hp} {v : V} {rc : List Nat} {r : Addr} {K : PySem.W.Frag}
theorem RunL.same (h : RunL Z H v rc) (e : Same H H') : RunL Z H' v rc := by
  obtain ⟨a, rfl, h1, h2⟩ := h
  exact ⟨a, rfl, e _ _ h1, h2⟩
theorem RunL.but (h : RunL Z H v rc) (b : But r H H') (hz : ∀ a, Z a → a ≠ r) : RunL Z H' v rc := by
  obtain ⟨a, rfl, h1, h2⟩ := h
  exact ⟨a, rfl, b _ _ (hz a h2) h1, h2⟩
theorem RunL.weak (h : RunL Z H v rc) (hz : ∀ a o, H a = some o → Z a → Z' a) : RunL Z' H v rc := by
  obtain ⟨a, rfl, h1, h2⟩ := h
  exact ⟨a, rfl, h1, hz a _ h1 h2⟩
theorem dp_nats (K : PySem.W.Frag) (H : Hp) : ∀ r : List Nat, DpAll K H (r.map natV) (r.map fun n : Nat => PyData.int (n : Int))
  | [] => .nil
  | n :: r => .cons (.int _) (dp_nats K H r)
theorem RunL.dp (h : RunL Z H v rc) : Dp K H v (runD rc) := by
  obtain ⟨a, rfl, h1, _⟩ := h
  exact .lst (.inl (.inl h1)) (dp_nats K H rc)
end
theorem all2_dp {K : PySem.W.Frag} {H : Hp} {α : Type} {f : α → PyData} {R : V → α → Prop} {vs : List V} {as : List α} (h : All2 R vs as) (m : ∀ v a, R v a → Dp K H v (f a)) : DpAll K H vs (as.map f) :=
  all_of h.1 fun i x a e1 e2 => m x a (h.2 i x a e1 e2)
/-- the addresses of the runs -/
theorem all2_rows {Z : Addr → Prop} {H : Hp} : ∀ {vs : List V} {rs : List (List Nat)}, All2 (RunL Z H) vs rs → ∃ ts : List (Addr × List Int), vs = ts.map (fun t => V.ref t.1) ∧ ts.map (·.2) = rs.map (fun r => r.map fun n : Nat => (n : Int)) ∧ ∀ t ∈ ts, H t.1 = some (.lst (t.2.map V.int))
  | [], [], _ => ⟨[], rfl, rfl, fun t h => by cases h⟩
  | [], r :: rs, h => by cases h.1
  | v :: vs, [], h => by cases h.1
  | v :: vs, r :: rs, h => by
    obtain ⟨a, rfl, h1, h2⟩ := h.2 0 v r rfl rfl
    obtain ⟨ts, e1, e2, e3⟩ := all2_rows (vs := vs) (rs := rs) ⟨Nat.succ.inj h.1, fun i x b p q => h.2 (i + 1) x b p q⟩
    refine ⟨(a, r.map fun n : Nat => (n : Int)) :: ts, by rw [e1]; rfl, by rw [List.map_cons, e2]; rfl, fun t ht => ?_⟩
    rcases List.mem_cons.mp ht with e | ht
    · rw [e]
      show H a = some (.lst ((r.map fun n : Nat => (n : Int)).map V.int))
      rw [h1, List.map_map]
      rfl
    · exact e3 t ht
theorem in_nat (t : Nat) : ∀ l : List Nat, inV (natV t) (l.map natV) = l.contains t
  | [] => rfl
  | x :: l => by
    have ih := in_nat t l
    unfold inV at ih ⊢
    rw [List.map_cons, List.any_cons, ih, List.contains_cons]
    have e : eqV (natV x) (natV t) = (t == x) := by
      show ((x : Int) == (t : Int)) = (t == x)
      by_cases h : x = t
      · subst h
        simp
      · have h1 : ((x : Int) == (t : Int)) = false := beq_eq_false_iff_ne.mpr fun z => h (by omega)
        have h2 : (t == x) = false := beq_eq_false_iff_ne.mpr fun z => h z.symm
        rw [h1, h2]
    rw [e]
theorem flat_nats (l : List Nat) : (l.map natV).all flatV = true := by
  induction l with
  | nil => rfl
  | cons x l ih =>
    rw [List.map_cons, List.all_cons, ih]
    rfl

/-! ### the runs alone -/
def nxl (n : Nat) (p : Pl) (r : List Nat) : List (List Nat) := (if ways n p = [] then [r] else []) ++ (ways n p).map fun t => r ++ [t]
theorem nx_fst (ps : List Pl) (rc : Run) : (nx ps rc).map (·.1) = nxl ps.length (pAt ps (lastN rc.1)) rc.1 := by
  unfold nxl nx
  split
  · rename_i h
    rw [h]
    rfl
  · rw [List.map_map, List.nil_append]
    rfl
theorem flat_fst (ps : List Pl) (l : List Run) : (l.flatMap (nx ps)).map (·.1) = (l.map (·.1)).flatMap fun r => nxl ps.length (pAt ps (lastN r)) r := by
  induction l with
  | nil => rfl
  | cons a l ih => rw [List.flatMap_cons, List.map_append, ih, nx_fst, List.map_cons, List.flatMap_cons]
def rl (ps : List Pl) (x k : Nat) : List (List Nat) := (rn ps x k).map (·.1)
theorem rl_succ (ps : List Pl) (x k : Nat) : rl ps x (k + 1) = (rl ps x k).flatMap fun r => nxl ps.length (pAt ps (lastN r)) r := flat_fst ps _
theorem rl_take {ps : List Pl} {x k j : Nat} {r : List Nat} (h : (rl ps x k)[j]? = some r) : ((rl ps x k).take (j + 1)).flatMap (fun r => nxl ps.length (pAt ps (lastN r)) r) = ((rl ps x k).take j).flatMap (fun r => nxl ps.length (pAt ps (lastN r)) r) ++ nxl ps.length (pAt ps (lastN r)) r := by
  rw [List.take_add_one, h, List.flatMap_append]
  show _ ++ (([r] : List (List Nat)).flatMap _) = _
  rw [List.flatMap_singleton]
theorem rl_len {ps : List Pl} (h : Wf ps) (x k : Nat) : (rl ps x k).length ≤ 10 ^ k := by
  unfold rl
  rw [List.length_map]
  exact rn_len h x k
theorem rl_pre {ps : List Pl} {x k j : Nat} {r : List Nat} (h : (rl ps x k)[j]? = some r) {l : List (List Nat)} (hl : l <+: nxl ps.length (pAt ps (lastN r)) r) :
    ((rl ps x k).take j).flatMap (fun r => nxl ps.length (pAt ps (lastN r)) r) ++ l <+: rl ps x (k + 1) := by
  have e : rl ps x (k + 1) = ((rl ps x k).take (j + 1)).flatMap (fun r => nxl ps.length (pAt ps (lastN r)) r) ++ ((rl ps x k).drop (j + 1)).flatMap (fun r => nxl ps.length (pAt ps (lastN r)) r) := by
    rw [rl_succ, ← List.flatMap_append, List.take_append_drop]
  rw [e, rl_take h]
  exact ((List.prefix_append_right_inj _).mpr hl).trans (List.prefix_append _ _)
theorem ways_pre (n : Nat) (p : Pl) : ∀ d u, u + d = n → (List.range u).filter (fun t => p.tg.contains t) <+: ways n p
  | 0, u, h => by
    rw [Nat.add_zero] at h
    rw [h]
    exact List.prefix_refl _
  | d + 1, u, h => by
    refine List.IsPrefix.trans ?_ (ways_pre n p d (u + 1) (by omega))
    rw [List.range_succ, List.filter_append]
    exact List.prefix_append _ _

def spLRuns (K : PySem.W.Frag) : Sp := fun vs H Q _ => ∃ (c : Addr) (ps : List Pl) (x k : Nat), vs = [.ref c, natV x, natV k] ∧ Dp K H (.ref c) (chD ps) ∧ Wf ps ∧ x < ps.length ∧ k ≤ 6 ∧
  ∀ p xs H', Same H H' → H p = none → H' p = some (.lst xs) → All2 (RunL (fun a => H a = none) H') xs (rl ps x k) → Q (.ref p) H'
def spLChance (K : PySem.W.Frag) : Sp := fun vs H Q _ => ∃ (c a : Addr) (ps : List Pl) (r : List Nat), vs = [.ref c, .ref a] ∧ Dp K H (.ref c) (chD ps) ∧ Wf ps ∧ SqL K H a (r.map natV) ∧ r ≠ [] ∧ (∀ y ∈ r, y < ps.length) ∧ r.length ≤ 7 ∧
  ∀ v H', Same H H' → Nu K H' v (chance ps r) → Q v H'
def spIsNum (K : PySem.W.Frag) : Sp := fun vs H Q _ => ∃ (v : V) (q : Rat), vs = [v] ∧ Nu K H v q ∧ Lit q ∧ ∀ H', Same H H' → Q (.bl true) H'

theorem stepC_wd {n : Nat} {p : Pl} (h : WfP n p) (t : Nat) : Wd M0 6 (stepC p t) := by
  cases p with
  | draw bs =>
    have q := at_wd (C := 1) (D := M0) M0_ne (l := bs) (fun b hb => ((h.drw bs rfl).2.2.1 b hb).2) t
    exact q.mono (Nat.dvd_refl _) (by have := wf_bs h; omega)
  | rew q x => exact (Wd.one M0).mono (Nat.dvd_refl _) (by decide)
  | fin => exact (Wd.one M0).mono (Nat.dvd_refl _) (by decide)
  | lose => exact (Wd.one M0).mono (Nat.dvd_refl _) (by decide)
theorem getD_lt {r : List Nat} {n i : Nat} (h : ∀ y ∈ r, y < n) (hi : i < r.length) : r.getD i 0 < n := by
  rw [List.getD_eq_getElem?_getD, List.getElem?_eq_getElem hi]
  exact h _ (List.getElem_mem hi)
theorem nat_get {r : List Nat} {i : Nat} (h : i < r.length) : (r.map natV)[i]? = some (natV (r.getD i 0)) := by
  rw [List.getElem?_map, List.getD_eq_getElem?_getD, List.getElem?_eq_getElem h]
  rfl
theorem chR_wd {ps : List Pl} (h : Wf ps) {r : List Nat} (hr : ∀ y ∈ r, y < ps.length) : ∀ i, i < r.length → Wd (M0 ^ i) (6 ^ i) (chR ps r i)
  | 0, _ => Wd.one _
  | i + 1, hi => (chR_wd h hr i (by omega)).mul (stepC_wd (wf_at h (getD_lt hr (by omega))) _)
theorem chR_lit {ps : List Pl} (h : Wf ps) {r : List Nat} (hr : ∀ y ∈ r, y < ps.length) (hl : r.length ≤ 7) {i : Nat} (hi : i < r.length) : Lit (chR ps r i) := by
  refine Wd.lit6 (show i ≤ 6 by omega) ?_ (chR_wd h hr i hi)
  exact Nat.le_trans (Nat.pow_le_pow_right (by decide) (show i ≤ 6 by omega)) (by decide)
theorem step_lit {n : Nat} {p : Pl} (h : WfP n p) (t : Nat) : Lit (stepC p t) := by
  have q : Wd (M0 ^ 1) 6 (stepC p t) := (stepC_wd h t).mono (by rw [Nat.pow_one]; exact Nat.dvd_refl _) (Nat.le_refl _)
  exact q.lit6 (by decide) (by decide)
theorem tyT {K : PySem.W.Frag} {H : Hp} {a : Addr} {xs : List V} (h : SqT K H a xs) : TyX K H (.ref a) (.type "tuple") := by
  rcases h with (h | ⟨o, h⟩) | ⟨o, its, n, h, hc, _⟩
  · exact .base (.tup h)
  · exact .fTuple h
  · exact .kTuple h hc

section
variable {P : Program} {w : World} {K : PySem.W.Frag} {mg : Str → Option Value} {base : Heap}
theorem scLChance : FnScope ["_law_chain", "_law_run", "_law_chance_here", "_law_place_here"] ["_law_chain", "_law_run"] (defScope sLChance) := ⟨rfl, rfl, rfl, by decide +kernel, rfl, by decide +kernel, by decide +kernel⟩
theorem ok_lchance {f : Addr} {fd : FuncData} (F : Fun K "_law_chance" "_law_chance" sLChance f fd) (T : Txt K mg) (cT : C8.Cal P w K mg base 2 "_law_times" (spTimes K) []) (cS : C8.Cal P w K mg base 3 "_law_step" (spLStep K) []) :
    FnOk P w K mg base CX0 4 f fd ["_law_chain", "_law_run"] (spLChance K) := by
  refine F.ok scLChance (fun vs H Q E h => ?_) (fun cdv A outer s H vs Q E hr h => ?_)
  · obtain ⟨c, a, ps, r, rfl, _⟩ := h
    rfl
  · obtain ⟨c, a, ps, r, rfl, hd, hw, ha, hne, hlt, hl7, k⟩ := h
    have nd := scLChance.nd
    refine ⟨_, pss_cons (ps_set (i := 2) nd rfl (.inl rfl) (pe_tup (pa_cons pe_int (pa_cons pe_int pa_nil))))
      (pss_cons (ps_for PassesOwn.never rfl (pi_range2 (by rfl) T.range (pa_cons pe_int (pa_cons (pe_callB call_len_seq (by rfl) T.len PySem.boot_len (pa_cons (pv 1) pa_nil)) pa_nil))) (pg_name (i := 3) nd rfl (.inl rfl))
        (pss_one (ps_set (i := 2) nd rfl (.inl rfl) (C8.pe_c cT hr (by decide) (by rfl) (pa_cons (pv 2) (pa_cons (C8.pe_c cS hr (by decide) (by rfl)
          (pa_cons (pe_ix ix_list (pv 0) (pe_ix ix_list (pv 1) (pe_op op_sub (pv 3) pe_int) (fun _ _ => rfl)) (fun _ _ => rfl)) (pa_cons (pe_ix ix_list (pv 1) (pv 3) (fun _ _ => rfl)) pa_nil))) pa_nil))))))
      (pss_one (ps_ret (pv 2)))), ?_⟩
    obtain ⟨cs, hc, hca, hcl⟩ := dp_at hd
    have hpos : 0 < r.length := List.length_pos_iff.mpr hne
    refine ⟨(by show 2 ≤ sizeLine; decide), fun D hD => ?_⟩
    have s1 := same_upd (o := .tup [.int 1, .int 1]) hD
    have hlen : (r.map natV).length = r.length := List.length_map _
    refine ⟨_, rfl, a, _, rfl, .inl (s1.seq ha), 1, ((r.map natV).length : Int), rfl, by omega, for_range (lo := 1) (n := (((r.map natV).length : Int) - 1).toNat)
      (fun j σ H2 => ∃ (fv : V) (y3 : Option V), σ = [some (.ref c), some (.ref a), some fv, y3] ∧ Same H H2 ∧ Nu K H2 fv (chR ps r j))
      ⟨.ref D, none, rfl, s1, ⟨D, rfl, .inl (.inl upd_same)⟩⟩ ?_ ?_⟩
    · rintro j σ H2 hj ⟨fv, y3, rfl, s2, hf⟩
      rw [hlen] at hj
      have hj1 : j + 1 < r.length := by omega
      have l1 := getD_lt hlt (show j < r.length by omega)
      obtain ⟨pv', epv, hpv⟩ := dp_place hca l1
      have e1 : (1 : Int) + ((j : Nat) : Int) - 1 = ((j : Nat) : Int) := by omega
      have e2 : (1 : Int) + ((j : Nat) : Int) = ((j + 1 : Nat) : Int) := by omega
      refine ⟨_, rfl, _, rfl, _, rfl, _, rfl, _, _, rfl, rfl, a, _, _, natV (r.getD j 0), rfl, rfl, s2.seq ha, ?_, c, cs, _, pv', rfl, rfl, s2.seq hc, atI_nat epv, _, rfl, _, rfl, a, _, _, natV (r.getD (j + 1) 0), rfl, rfl, s2.seq ha, ?_, ?_⟩
      · rw [e1]
        exact atI_nat (nat_get (by omega))
      · rw [e2]
        exact atI_nat (nat_get hj1)
      · refine ⟨pv', ps.length, _, _, rfl, dp_same s2 _ _ hpv, wf_at hw l1, fun u H3 s3 hu => ?_⟩
        refine ⟨fv, u, _, _, rfl, hf.same s3, hu, chR_lit hw hlt hl7 (by omega), step_lit (wf_at hw l1) _, fun t ht => ?_⟩
        exact ⟨.ref t, _, rfl, (s2.trans s3).trans (same_upd ht), Nu.new⟩
    · rintro σ H2 ⟨fv, y3, rfl, s2, hf⟩
      have e : (((r.map natV).length : Int) - 1).toNat = r.length - 1 := by omega
      rw [e] at hf
      exact ⟨fv, rfl, k fv H2 s2 hf⟩

theorem scIsNum : FnScope ["_law_actual", "_law_one"] ["_law_actual"] (defScope sIsNum) := ⟨rfl, rfl, rfl, by decide +kernel, rfl, by decide +kernel, by decide +kernel⟩
theorem ok_isnum {f : Addr} {fd : FuncData} (F : Fun K "_law_is_number" "_law_is_number" sIsNum f fd) (T : Txt K mg) (cN : C8.Cal P w K mg base 1 "_law_number" spNum []) : FnOk P w K mg base CX0 2 f fd ["_law_actual"] (spIsNum K) := by
  refine F.ok scIsNum (fun vs H Q E h => ?_) (fun cdv A outer s H vs Q E hr h => ?_)
  · obtain ⟨v, q, rfl, _⟩ := h
    rfl
  · obtain ⟨v, q, rfl, ⟨a, rfl, ha⟩, hq, k⟩ := h
    have nd := scIsNum.nd
    refine ⟨_, pss_cons (ps_if (PW.pt (pw_or (pt_not (pt_val (pe_callB call_isi (by rfl) T.isin (by decide +kernel) (pa_cons (pv 0) (pa_cons (pe_bltn (v := .ty "tuple") (by rfl) T.tuple (by decide +kernel) rfl) pa_nil)))))
          (pw_or1 (pt_cmpR op_ne (pe_callB call_len_seq (by rfl) T.len PySem.boot_len (pa_cons (pv 0) pa_nil)) pe_int (nomark _))))) (pss_one (ps_ret pe_bl)) pss_nil)
      (pss_cons (ps_for PassesOwn.never rfl (pi_tup (pv 0)) (pg_name (i := 1) nd rfl (.inl rfl))
        (pss_one (ps_if (PW.pt (pw_or (pt_not (pt_val (pe_callB call_isi (by rfl) T.isin (by decide +kernel) (pa_cons (pv 1) (pa_cons (pe_bltn (v := .ty "int") (by rfl) T.int (by decide +kernel) rfl) pa_nil)))))
          (pw_or1 (pt_val (pe_callB call_isi (by rfl) T.isin (by decide +kernel) (pa_cons (pv 1) (pa_cons (pe_bltn (v := .ty "bool") (by rfl) T.bool (by decide +kernel) rfl) pa_nil))))))) (pss_one (ps_ret pe_bl)) pss_nil)))
      (pss_one (ps_ret (pe_and (pe_cmpR op_gt (pe_ix ix_tup (pv 0) pe_int (fun _ _ => rfl)) pe_int (nomark _))
        (pe_one (pe_cmpR (op_eqD hr.units) (C8.pe_c cN hr (by decide) (by rfl) (pa_cons (pe_ix ix_tup (pv 0) pe_int (fun _ _ => rfl)) (pa_cons (pe_ix ix_tup (pv 0) pe_int (fun _ _ => rfl)) pa_nil))) (pv 0) (nomark _))))))), ?_⟩
    refine ⟨_, rfl, _, _, _, _, true, rfl, .ty "tuple", tyT ha, kit_ty (by decide +kernel), _, rfl, ?_⟩
    refine iteF ?_
    refine ⟨_, rfl, a, _, rfl, .inr ha, rfl, _, rfl, ?_⟩
    refine iteNS rfl ?_
    refine ⟨_, rfl, a, rfl, ⟨_, ha⟩, for_tup (K := K) (a := a) (xs := nuL q) (fun j σ H2 => ∃ y1 : Option V, σ = [some (.ref a), y1] ∧ H2 = H) ⟨none, rfl, rfl⟩ (fun j σ H2 _ ⟨_, _, e⟩ => by rw [e]; exact ha) ?_ ?_⟩
    · rintro j x σ H2 hj ⟨y1, rfl, rfl⟩
      obtain ⟨i, rfl⟩ : ∃ i : Int, x = V.int i := by
        match j, hj with
        | 0, hj => exact ⟨q.num, (Option.some.inj hj).symm⟩
        | 1, hj => exact ⟨(q.den : Int), (Option.some.inj hj).symm⟩
        | j + 2, hj => simp [nuL] at hj
      refine ⟨_, rfl, _, _, _, _, true, rfl, .ty "int", .base (.int i), kit_ty (by decide +kernel), _, rfl, ?_⟩
      refine iteF ?_
      refine ⟨_, rfl, _, _, _, _, false, rfl, .ty "bool", .base (.int i), kit_ty (by decide +kernel), _, rfl, ?_⟩
      refine iteF ?_
      exact ⟨_, rfl, rfl⟩
    · rintro σ H2 ⟨y1, rfl, rfl⟩
      refine ⟨_, rfl, a, _, 1, .int q.den, rfl, rfl, ha, atI_nat (j := 1) rfl, _, _, rfl, rfl, _, rfl, iteY (den_pos q) ?_⟩
      refine ⟨_, rfl, a, _, 0, .int q.num, rfl, rfl, ha, atI_nat (j := 0) rfl, _, rfl, a, _, 1, .int q.den, rfl, rfl, ha, atI_nat (j := 1) rfl, ?_⟩
      refine ⟨_, _, rfl, den_pos q, Nat.lt_of_lt_of_le (den_lt hq) (Nat.pow_le_pow_right (by decide) (by decide)), fun t ht => ?_⟩
      rw [(same_pair q).1, (same_pair q).2]
      have s1 := same_upd (o := .tup (nuL q)) ht
      refine ⟨_, rfl, nuD q, nuD q, nu_dp Nu.new, nu_dp (Nu.same ⟨a, rfl, ha⟩ s1), rfl, rfl, ?_⟩
      rw [SeqAt.eqv_refl (nuD q) rfl]
      exact k _ s1

theorem scLRuns : FnScope ["_law_chain", "_law_place_here", "_law_steps", "_law_found", "_law_turn", "_law_longer", "_law_run", "_law_ways", "_law_target"] ["_law_chain", "_law_place_here", "_law_steps"] (defScope sLRuns) := ⟨rfl, rfl, rfl, by decide +kernel, rfl, by decide +kernel, by decide +kernel⟩
theorem ok_lruns {f : Addr} {fd : FuncData} (F : Fun K "_law_runs" "_law_runs" sLRuns f fd) (T : Txt K mg) (cG : C8.Cal P w K mg base 1 "_law_targets" (spLTargets K) []) : FnOk P w K mg base CX0 2 f fd ["_law_chain", "_law_place_here", "_law_steps"] (spLRuns K) := by
  refine F.ok scLRuns (fun vs H Q E h => ?_) (fun cdv A outer s H vs Q E hr h => ?_)
  · obtain ⟨c, ps, x, k, rfl, _⟩ := h
    rfl
  · obtain ⟨c, ps, x, k, rfl, hd, hw, hx, hk, q⟩ := h
    have nd := scLRuns.nd
    refine ⟨_, pss_cons (ps_set (i := 3) nd rfl (.inl rfl) (pe_lst (pa_cons (pe_lst (pa_cons (pv 1) pa_nil)) pa_nil)))
      (pss_cons (ps_for PassesOwn.never rfl (pi_range1 rfl T.range (pa_cons (pv 2) pa_nil)) (pg_name (i := 4) nd rfl (.inl rfl))
        (pss_cons (ps_set (i := 5) nd rfl (.inl rfl) (pe_lst pa_nil))
        (pss_cons (ps_for PassesOwn.never rfl (pi_list (pe_callTy call_list_of (by rfl) T.list (by decide +kernel) (pa_cons (pv 3) pa_nil))) (pg_name (i := 6) nd rfl (.inl rfl))
          (pss_cons (ps_set (i := 7) nd rfl (.inl rfl) (C8.pe_c cG hr (by decide) (by rfl) (pa_cons (pe_ix ix_list (pv 0) (pe_ix ix_list (pv 6) (pe_op op_sub (pe_callB call_len_seq (by rfl) T.len PySem.boot_len (pa_cons (pv 6) pa_nil)) pe_int) (fun _ _ => rfl)) (fun _ _ => rfl)) pa_nil)))
          (pss_cons (ps_if (pt_cmpR op_eq (pe_callB call_len_seq (by rfl) T.len PySem.boot_len (pa_cons (pv 7) pa_nil)) pe_int (nomark _))
            (pss_one (ps_expr (pe_bm PySem.F.plainAttrs_list PySem.F.slot_list_append PySem.F.type_list_append mt_append (pv 5) (pa_cons (pv 6) pa_nil)))) pss_nil)
          (pss_one (ps_for PassesOwn.never rfl (pi_range1 rfl T.range (pa_cons (pe_callB call_len_seq (by rfl) T.len PySem.boot_len (pa_cons (pv 0) pa_nil)) pa_nil)) (pg_name (i := 8) nd rfl (.inl rfl))
            (pss_one (ps_if (pt_cmpR op_in_seq (pv 8) (pv 7) (by rfl))
              (pss_one (ps_expr (pe_bm PySem.F.plainAttrs_list PySem.F.slot_list_append PySem.F.type_list_append mt_append (pv 5) (pa_cons (pe_op op_cat (pv 6) (pe_lst (pa_cons (pv 8) pa_nil))) pa_nil)))) pss_nil)))))))
        (pss_one (ps_set (i := 3) nd rfl (.inl rfl) (pv 5))))))
      (pss_one (ps_ret (pe_callB (cr_sortedRows hr.units) (by rfl) T.sorted (by decide +kernel) (pa_cons (pv 3) pa_nil))))), ?_⟩
    obtain ⟨cs, hc, hca, hcl⟩ := dp_at hd
    have hn10 : ps.length ≤ 10 := hw.2.1
    refine ⟨_, rfl, (by show 1 ≤ sizeLine; decide), fun a1 h1 => ⟨(by show 1 ≤ sizeLine; decide), fun p1 h2 => ?_⟩⟩
    have s1 := same_upd (o := .lst [natV x]) h1
    have s2 := same_upd (o := .lst [.ref a1]) h2
    have r0 : RunL (fun a => H a = none) (upd (upd H a1 (.lst [natV x])) p1 (.lst [.ref a1])) (.ref a1) [x] := ⟨a1, rfl, s2 _ _ upd_same, h1⟩
    refine ⟨_, rfl, (k : Int), rfl, by omega, by omega, for_range (lo := 0) (n := k) (fun j σ H1 => ∃ (p : Addr) (xs : List V) (y4 y5 y6 y7 y8 : Option V), σ = [some (.ref c), some (natV x), some (natV k), some (.ref p), y4, y5, y6, y7, y8] ∧
        Same H H1 ∧ H p = none ∧ H1 p = some (.lst xs) ∧ All2 (RunL (fun a => H a = none) H1) xs (rl ps x j))
      ⟨p1, [.ref a1], _, _, _, _, _, rfl, s1.trans s2, s1.free h2, upd_same, All2.one r0⟩ ?_ ?_⟩
    · rintro j σ H1 hj ⟨p, xs, y4, y5, y6, y7, y8, rfl, sH, hp, ep, hx1⟩
      have hj6 : j + 1 ≤ 6 := by omega
      refine ⟨(by show 0 ≤ sizeLine; decide), fun L hL => ?_⟩
      have sL := same_upd (o := .lst []) hL
      refine ⟨_, rfl, p, xs, rfl, .inl (.inl (.inl (sL _ _ ep))), fun g hg => ?_⟩
      have sg := same_upd (o := .lst xs) hg
      have hgL : g ≠ L := fun z => by
        rw [z, upd_same] at hg
        cases hg
      have eL0 : (upd (upd H1 L (.lst [])) g (.lst xs)) L = some (.lst []) := sg _ _ upd_same
      have eg0 : (upd (upd H1 L (.lst [])) g (.lst xs)) g = some (.lst xs) := upd_same
      have s1g : Same H1 (upd (upd H1 L (.lst [])) g (.lst xs)) := sL.trans sg
      revert eL0 eg0 s1g
      generalize upd (upd H1 L (.lst [])) g (.lst xs) = Hg
      intro eL0 eg0 s1g
      have hLH : H L = none := sH.free hL
      refine ⟨g, rfl, ⟨xs, .inl (.inl eg0)⟩, for_list (K := K) (a := g) (xs := xs)
        (fun i σ H2 => ∃ (ls : List V) (y4 y6 y7 y8 : Option V), σ = [some (.ref c), some (natV x), some (natV k), some (.ref p), y4, some (.ref L), y6, y7, y8] ∧ But L Hg H2 ∧ H2 L = some (.lst ls) ∧
          All2 (RunL (fun a => H a = none ∧ a ≠ L) H2) ls (((rl ps x j).take i).flatMap fun r => nxl ps.length (pAt ps (lastN r)) r))
        ⟨[], _, _, _, _, rfl, But.refl L Hg, eL0, All2.nil⟩ (fun i σ H2 _ ⟨_, _, _, _, _, _, b2, _⟩ => but_L b2 hgL (.inl (.inl eg0))) ?_ ?_⟩
      · rintro i v σ H2 hi ⟨ls, y4, y6, y7, y8, rfl, b2, eL, hls⟩
        obtain ⟨r, er, hr0⟩ := hx1.get hi
        obtain ⟨rc, hmem, erc⟩ := List.mem_map.mp (show r ∈ (rn ps x j).map (·.1) from List.mem_of_getElem? er)
        have s12 : Same H1 H2 := b2.same s1g hL
        have sH2 : Same H H2 := sH.trans s12
        have hr1 : RunL (fun a => H a = none ∧ a ≠ L) H1 v r := hr0.weak fun a o ea za => ⟨za, fun z => by rw [z, hL] at ea; cases ea⟩
        have hr2 : RunL (fun a => H a = none ∧ a ≠ L) H2 v r := hr1.same s12
        obtain ⟨hne, hall, hlast, hrl⟩ := rn_last hx j rc hmem
        rw [erc] at hne hall hlast hrl
        have hwl := wf_at hw hlast
        obtain ⟨a, rfl, ha, za, zL⟩ := hr2
        have hpos : 0 < r.length := List.length_pos_iff.mpr hne
        have hml : (r.map natV).length = r.length := List.length_map _
        obtain ⟨pv', epv, hpv⟩ := dp_place hca hlast
        -- ways = targets(chain[run[len(run) - 1]])
        refine ⟨_, rfl, _, rfl, _, rfl, a, _, rfl, .inl (.inl (.inl ha)), _, _, rfl, rfl, a, _, _, natV (lastN r), rfl, rfl, .inl (.inl ha), ?_, c, cs, _, pv', rfl, rfl, sH2.seq hc, atI_nat epv, pv', ps.length, pAt ps (lastN r), rfl, dp_same sH2 _ _ hpv, hwl, fun l H3 s3 hl el => ?_⟩
        · have e1 : ((r.map natV).length : Int) - 1 = ((r.length - 1 : Nat) : Int) := by omega
          rw [e1, ← lastN_getD hne]
          exact atI_nat (nat_get (by omega))
        have eL3 := s3 _ _ eL
        have hlL : l ≠ L := fun z => by
          rw [z, eL] at hl
          cases hl
        have b3 : But L Hg H3 := b2.trans (But.of_same s3)
        have ha3 := s3 _ _ ha
        have hls3 : All2 (RunL (fun a => H a = none ∧ a ≠ L) H3) ls (((rl ps x j).take i).flatMap fun r => nxl ps.length (pAt ps (lastN r)) r) := hls.mono fun v a _ z => z.same s3
        have we : ((pAt ps (lastN r)).tg.map natV).length = (pAt ps (lastN r)).tg.length := List.length_map _
        have hend : ways ps.length (pAt ps (lastN r)) = [] ↔ (pAt ps (lastN r)).tg = [] := ways_empty hwl
        -- if len(ways) == 0
        refine ⟨_, rfl, l, _, rfl, .inl (.inl (.inl el)), rfl, _, rfl, ?_⟩
        refine ite2 (fun eq => ?_) (fun ne => ?_)
        · have z0 : ways ps.length (pAt ps (lastN r)) = [] := hend.mpr (List.eq_nil_of_length_eq_zero (by
            have := V.int.inj (of_decide_eq_true eq)
            omega))
          have lsl : ls.length < sizeLine := by
            rw [hls3.1]
            exact big6 (Nat.le_trans (by rw [rl_succ, ← List.take_append_drop i (rl ps x j), List.flatMap_append, List.length_append, List.take_append_drop]; exact Nat.le_add_right _ _) (rl_len hw x (j + 1))) hj6
          refine ⟨_, rfl, .inl ⟨rfl, _, .inl (.inl eL3)⟩, _, rfl, L, ls, .ref a, rfl, rfl, eL3, lsl, ?_⟩
          have bL := But.upd L H3 (.lst (ls ++ [.ref a]))
          have hls7 : All2 (RunL (fun a => H a = none ∧ a ≠ L) (upd H3 L (.lst (ls ++ [.ref a])))) (ls ++ [.ref a]) (((rl ps x j).take (i + 1)).flatMap fun r => nxl ps.length (pAt ps (lastN r)) r) := by
            rw [rl_take er]
            have en : nxl ps.length (pAt ps (lastN r)) r = [r] := by
              unfold nxl
              rw [z0]
              rfl
            rw [en]
            exact All2.app (hls3.mono fun v a _ z => z.but bL fun a za => za.2) (All2.one ⟨a, rfl, bL _ _ zL ha3, za, zL⟩)
          have b57 : But L Hg (upd H3 L (.lst (ls ++ [.ref a]))) := b3.trans bL
          have el7 : (upd H3 L (.lst (ls ++ [.ref a]))) l = some (.lst ((pAt ps (lastN r)).tg.map natV)) := bL _ _ hlL el
          have eL7 : (upd H3 L (.lst (ls ++ [.ref a]))) L = some (.lst (ls ++ [.ref a])) := upd_same
          have s17 : Same H (upd H3 L (.lst (ls ++ [.ref a]))) := bL.same (sH2.trans s3) hLH
          revert hls7 b57 el7 eL7 s17
          generalize upd H3 L (.lst (ls ++ [.ref a])) = H7
          intro hls7 b57 el7 eL7 s17
          refine ⟨_, rfl, c, cs, rfl, .inl (s17.seq hc), (cs.length : Int), rfl, by omega, by omega, for_range (lo := 0) (n := cs.length)
            (fun u σ H8 => ∃ y8, H8 = H7 ∧ σ = [some (.ref c), some (natV x), some (natV k), some (.ref p), y4, some (.ref L), some (.ref a), some (.ref l), y8]) ⟨_, rfl, rfl⟩ ?_ ?_⟩
          · rintro u σ H8 hu ⟨y8, rfl, rfl⟩
            refine ⟨_, rfl, _, rfl, l, _, rfl, .inl (.inl (.inl el7)), rfl, flat_nats _, _, rfl, ?_⟩
            have e0 : (0 : Int) + ((u : Nat) : Int) = ((u : Nat) : Int) := Int.zero_add _
            rw [e0, in_nat]
            have tgz := hend.mp z0
            rw [tgz]
            exact iteF ⟨_, rfl, rfl⟩
          · rintro σ H8 ⟨y8, rfl, rfl⟩
            exact ⟨_, _, _, _, _, rfl, b57, eL7, hls7⟩
        · have wne : ways ps.length (pAt ps (lastN r)) ≠ [] := fun z => ne (decide_eq_true (by
            rw [hend.mp z]
            rfl))
          have en : nxl ps.length (pAt ps (lastN r)) r = (ways ps.length (pAt ps (lastN r))).map fun t => r ++ [t] := by
            unfold nxl
            rw [if_neg wne, List.nil_append]
          refine ⟨_, rfl, c, cs, rfl, .inl ((sH2.trans s3).seq hc), (cs.length : Int), rfl, by omega, by omega, for_range (lo := 0) (n := cs.length)
            (fun u σ H8 => ∃ (ls8 : List V) (y8 : Option V), σ = [some (.ref c), some (natV x), some (natV k), some (.ref p), y4, some (.ref L), some (.ref a), some (.ref l), y8] ∧ But L H3 H8 ∧ H8 L = some (.lst ls8) ∧
              All2 (RunL (fun a => H a = none ∧ a ≠ L) H8) ls8 (((rl ps x j).take i).flatMap (fun r => nxl ps.length (pAt ps (lastN r)) r) ++ ((List.range u).filter fun t => (pAt ps (lastN r)).tg.contains t).map fun t => r ++ [t]))
            ⟨ls, _, rfl, But.refl L H3, eL3, by rw [List.range_zero, List.filter_nil, List.map_nil, List.append_nil]; exact hls3⟩ ?_ ?_⟩
          · rintro u σ H8 hu ⟨ls8, y8, rfl, b8, eL8, hls8⟩
            rw [hcl] at hu
            have el8 := b8 _ _ hlL el
            have e0 : (0 : Int) + ((u : Nat) : Int) = ((u : Nat) : Int) := Int.zero_add _
            rw [e0]
            refine ⟨_, rfl, _, rfl, l, _, rfl, .inl (.inl (.inl el8)), rfl, flat_nats _, _, rfl, ?_⟩
            rw [in_nat]
            have hf : (List.range (u + 1)).filter (fun t => (pAt ps (lastN r)).tg.contains t) = (List.range u).filter (fun t => (pAt ps (lastN r)).tg.contains t) ++ [u].filter fun t => (pAt ps (lastN r)).tg.contains t := by
              rw [List.range_succ, List.filter_append]
            cases hb : (pAt ps (lastN r)).tg.contains u with
            | false =>
              refine iteF ⟨ls8, _, rfl, b8, eL8, ?_⟩
              rw [hf, List.filter_cons, hb]
              simpa using hls8
            | true =>
              refine iteT ?_
              have ha8 := b8 _ _ zL ha3
              have sH8 : Same H H8 := b8.same (sH2.trans s3) hLH
              have ls8l : ls8.length < sizeLine := by
                rw [hls8.1]
                refine big6 (Nat.le_trans (List.IsPrefix.length_le (rl_pre er (l := ((List.range u).filter fun t => (pAt ps (lastN r)).tg.contains t).map fun t => r ++ [t]) ?_)) (rl_len hw x (j + 1))) hj6
                rw [en]
                exact (ways_pre ps.length (pAt ps (lastN r)) (ps.length - u) u (by omega)).map _
              -- longer.append(run + [target])
              refine ⟨_, rfl, .inl ⟨rfl, _, .inl (.inl eL8)⟩, _, rfl, _, rfl, (by show 1 ≤ sizeLine; decide), fun w1 hw1 => ?_⟩
              have t1 := same_upd (o := .lst [natV u]) hw1
              refine ⟨a, w1, _, _, rfl, rfl, t1 _ _ ha8, upd_same, ?_, fun w2 hw2 => ?_⟩
              · rw [List.length_map]
                show r.length + 1 ≤ sizeLine
                have := small1000 (show r.length + 1 ≤ 1000 by omega)
                omega
              · have t2 := same_upd (o := .lst (r.map natV ++ [natV u])) hw2
                have hw2L : w2 ≠ L := fun z => by
                  rw [z, t1 _ _ eL8] at hw2
                  cases hw2
                have hw2H : H w2 = none := (sH8.trans t1).free hw2
                have ew2 : (upd (upd H8 w1 (.lst [natV u])) w2 (.lst (r.map natV ++ [natV u]))) w2 = some (.lst ((r ++ [u]).map natV)) := by
                  rw [upd_same, List.map_append]
                  rfl
                have t12 := t1.trans t2
                revert t12 ew2
                generalize upd (upd H8 w1 (.lst [natV u])) w2 (.lst (r.map natV ++ [natV u])) = H9
                intro ew2 t12
                refine ⟨L, ls8, .ref w2, rfl, rfl, t12 _ _ eL8, ls8l, ?_⟩
                have bL := But.upd L H9 (.lst (ls8 ++ [.ref w2]))
                refine ⟨_, _, rfl, b8.trans ((But.of_same t12).trans bL), upd_same, ?_⟩
                have e9 : ((List.range (u + 1)).filter fun t => (pAt ps (lastN r)).tg.contains t).map (fun t => r ++ [t]) = ((List.range u).filter fun t => (pAt ps (lastN r)).tg.contains t).map (fun t => r ++ [t]) ++ [r ++ [u]] := by
                  rw [hf, List.map_append, List.filter_cons, hb]
                  rfl
                rw [e9, ← List.append_assoc]
                exact All2.app (hls8.mono fun v a _ z => (z.same t12).but bL fun a za => za.2) (All2.one ⟨w2, rfl, bL _ _ hw2L ew2, hw2H, hw2L⟩)
          · rintro σ H8 ⟨ls8, y8, rfl, b8, eL8, hls8⟩
            rw [hcl] at hls8
            refine ⟨ls8, _, _, _, _, rfl, b3.trans b8, eL8, ?_⟩
            rw [rl_take er, en]
            exact hls8
      · rintro σ H2 ⟨ls, y4, y6, y7, y8, rfl, b2, eL, hls⟩
        rw [hx1.1, List.take_length, ← rl_succ] at hls
        exact ⟨_, rfl, L, ls, _, _, _, _, _, rfl, b2.same (sH.trans s1g) hLH, hLH, eL, hls.mono fun v a _ z => z.weak fun _ _ _ zz => zz.1⟩
    · rintro σ H1 ⟨p, xs, y4, y5, y6, y7, y8, rfl, sH, hp, ep, hx1⟩
      obtain ⟨ts, e1, e2, e3⟩ := all2_rows hx1
      refine ⟨_, rfl, p, ts, rfl, .inl (.inl (by rw [ep, e1])), fun t ht => .inl (.inl (e3 t ht)), ?_, fun p2 hp2 => ?_⟩
      · have h1 : (ts.map (·.2)).Pairwise (· ≤ ·) := by
          rw [e2]
          exact List.pairwise_map.mpr (rn_sorted ps x k)
        exact List.pairwise_map.mp h1
      · have s9 := same_upd (o := .lst (ts.map fun r => V.ref r.1)) hp2
        refine q p2 xs _ (sH.trans s9) (sH.free hp2) (by rw [upd_same, e1]) (hx1.mono fun v a _ z => z.same s9)
end
end K20

/-! K20LawA: the law's draws: draw, shares, place, game. -/
namespace K20
open PySem PySem.Spec PyProof.Rows L2

/-! ### what is new in a heap -/
def nw (H H' : Hp) : Hp := fun b => if H b = none then H' b else none
theorem nw_at {H H' : Hp} {b : Addr} (h : H b = none) : nw H H' b = H' b := if_pos h
theorem nw_none {H H' : Hp} {b : Addr} (h : H b ≠ none) : nw H H' b = none := if_neg h
theorem nw_in {H H' : Hp} {b : Addr} {o : HO} (h : nw H H' b = some o) : H b = none ∧ H' b = some o := by
  by_cases e : H b = none
  · exact ⟨e, (nw_at e).symm.trans h⟩
  · rw [nw_none e] at h
    cases h
theorem nw_sub (H H' : Hp) : Same (nw H H') H' := fun b o e => (nw_in e).2
/-- what stands stays there, if not as it was -/
def Kps (H H' : Hp) : Prop := ∀ b, H' b = none → H b = none
theorem Kps.refl (H : Hp) : Kps H H := fun _ e => e
theorem Kps.trans {H H1 H2 : Hp} (a : Kps H H1) (b : Kps H1 H2) : Kps H H2 := fun c e => a c (b c e)
theorem Kps.of_same {H H' : Hp} (s : Same H H') : Kps H H' := fun b e => s.free e
theorem Kps.upd (H : Hp) (p : Addr) (o : HO) : Kps H (upd H p o) := fun b e => by
  by_cases h : b = p
  · rw [h, upd_same] at e
    cases e
  · rwa [upd_ne h] at e
theorem But.kps {r : Addr} {H H' : Hp} {o : HO} (b : But r H H') (e : H' r = some o) : Kps H H' := fun c n => by
  cases q : H c with
  | none => rfl
  | some u =>
    by_cases h : c = r
    · rw [h, e] at n
      cases n
    · rw [b c u h q] at n
      cases n
theorem nw_left {H H1 H2 : Hp} (k : Kps H H1) : Same (nw H1 H2) (nw H H2) := fun b o e => by
  obtain ⟨h1, h2⟩ := nw_in e
  rw [nw_at (k b h1)]
  exact h2
theorem nw_right {H H1 H2 : Hp} {r : Addr} (b : But r H1 H2) (h : H r ≠ none) : Same (nw H H1) (nw H H2) := fun c o e => by
  obtain ⟨h1, h2⟩ := nw_in e
  rw [nw_at h1]
  exact b c o (fun z => h (z ▸ h1)) h2
theorem nw_same {H H1 H2 : Hp} (s : Same H1 H2) : Same (nw H H1) (nw H H2) := fun c o e => by
  obtain ⟨h1, h2⟩ := nw_in e
  rw [nw_at h1]
  exact s c o h2
theorem nw_but {H H1 H2 : Hp} {r : Addr} (b : But r H1 H2) : But r (nw H H1) (nw H H2) := fun c o n e => by
  obtain ⟨h1, h2⟩ := nw_in e
  rw [nw_at h1]
  exact b c o n h2

/-! ### the stream -/
/-- the three cells of the stream at s -/
def Str3 (H : Hp) (s c : Addr) : Prop := ∃ (i : Nat) (z : Int), H s = some (.lst [.ref c, natV i, .int z])
structure Strm (K : PySem.W.Frag) (H : Hp) (s c : Addr) : Prop where
  at3 : Str3 H s c
  ne : c ≠ s
  cells : ∃ ns : List Int, SqL K H c (ns.map V.int)
theorem Str3.lst {H : Hp} {s c : Addr} (h : Str3 H s c) : ∃ ls, H s = some (.lst ls) := by
  obtain ⟨i, z, e⟩ := h
  exact ⟨_, e⟩
theorem Str3.there {H : Hp} {s c : Addr} (h : Str3 H s c) : H s ≠ none := by
  obtain ⟨i, z, e⟩ := h
  rw [e]
  exact fun q => by cases q
theorem Str3.same {H H' : Hp} {s c : Addr} (h : Str3 H s c) (e : Same H H') : Str3 H' s c := by
  obtain ⟨i, z, q⟩ := h
  exact ⟨i, z, e _ _ q⟩
theorem Str3.upd {H : Hp} {s c D : Addr} {o : HO} (h : Str3 H s c) (n : D ≠ s) : Str3 (upd H D o) s c := by
  obtain ⟨i, z, q⟩ := h
  exact ⟨i, z, by rw [upd_ne n.symm]; exact q⟩
theorem Strm.on {K : PySem.W.Frag} {H H' : Hp} {s c : Addr} (h : Strm K H s c) (b : But s H H') (e : Str3 H' s c) : Strm K H' s c := by
  obtain ⟨ns, hc⟩ := h.cells
  exact ⟨e, h.ne, ns, but_L b h.ne hc⟩
theorem Strm.same {K : PySem.W.Frag} {H H' : Hp} {s c : Addr} (h : Strm K H s c) (e : Same H H') : Strm K H' s c := h.on (But.of_same e) (h.at3.same e)

def spDraw (K : PySem.W.Frag) : Sp := fun vs H Q _ => ∃ (s c : Addr) (m : Nat), vs = [.ref s, natV m] ∧ Strm K H s c ∧ 0 < m ∧ m ≤ 1000 ∧ ∀ (v : Nat) H', v < m → But s H H' → Str3 H' s c → Q (natV v) H'

section
variable {P : Program} {w : World} {K : PySem.W.Frag} {mg : Str → Option Value} {base : Heap}
theorem scDraw : FnScope ["_law_stream", "_law_many", "_law_cell", "_law_mixed", "_law_other", "_law_value"] ["_law_stream", "_law_many"] (defScope sDraw) := ⟨rfl, rfl, rfl, by decide +kernel, rfl, by decide +kernel, by decide +kernel⟩
theorem ok_draw {f : Addr} {fd : FuncData} (F : Fun K "_law_draw" "_law_draw" sDraw f fd) (T : Txt K mg) : FnOk P w K mg base CX0 1 f fd ["_law_stream", "_law_many"] (spDraw K) := by
  refine F.ok scDraw (fun vs H Q E h => ?_) (fun cdv A outer s H vs Q E hr h => ?_)
  · obtain ⟨s0, c, m, rfl, _⟩ := h
    rfl
  · obtain ⟨s0, c, m, rfl, hs, hm0, hm, k⟩ := h
    have nd := scDraw.nd
    refine ⟨_, C8.pss_cut (ps_if (pt_cmpR op_lt (pe_ix ix_list (pv 0) pe_int (fun _ _ => rfl)) (pv 1) (nomark _))
        (pss_cons (ps_set (i := 2) nd rfl (.inl rfl) pe_int)
        (C8.pss_cut (ps_if (pt_cmpR op_lt (pe_ix ix_list (pv 0) pe_int (fun _ _ => rfl)) (pe_callB call_len_seq (by rfl) T.len PySem.boot_len (pa_cons (pe_ix ix_list (pv 0) pe_int (fun _ _ => rfl)) pa_nil)) (nomark _))
          (pss_one (ps_set (i := 2) nd rfl (.inl rfl) (pe_ix ix_list (pe_ix ix_list (pv 0) pe_int (fun _ _ => rfl)) (pe_ix ix_list (pv 0) pe_int (fun _ _ => rfl)) (fun _ _ => rfl)))) pss_nil)
        (pss_cons (ps_asg (pe_op op_add (pe_ix ix_list (pv 0) pe_int (fun _ _ => rfl)) pe_int) (pg_sub (pv 0) pe_int set_list))
        (pss_cons (ps_asg (pv 2) (pg_sub (pv 0) pe_int set_list))
        (pss_one (ps_if (pt_cmpR op_lt (pv 2) (pe_op op_pow pe_int pe_int) (nomark _))
          (pss_cons (ps_set (i := 3) nd rfl (.inl rfl) (pe_op op_mod (pe_callTy call_int1 (by rfl) T.int (by decide +kernel) (pa_cons (pe_op op_add (pe_op op_mul (pv 2) pe_int) (pe_op op_mul (pe_ix ix_list (pv 0) pe_int (fun _ _ => rfl)) pe_int)) pa_nil)) pe_int))
          (pss_cons (ps_set (i := 4) nd rfl (.inl rfl) (pe_op op_mod (pe_callTy call_int1 (by rfl) T.int (by decide +kernel) (pa_cons (pe_op op_add (pe_op op_add (pe_op op_mul (pv 3) pe_int) (pe_op op_mul (pv 2) pe_int)) pe_int) pa_nil)) pe_int))
          (pss_one (ps_asg (pe_op op_add (pe_op op_add (pe_op op_mul (pv 4) pe_int) (pv 3)) (pe_op op_pow pe_int pe_int)) (pg_sub (pv 0) pe_int set_list))))) pss_nil)))))) pss_nil)
      (pss_cons (ps_set (i := 5) nd rfl (.inl rfl) (pe_op op_mod (pe_callTy call_int1 (by rfl) T.int (by decide +kernel) (pa_cons (pe_ix ix_list (pv 0) pe_int (fun _ _ => rfl)) pa_nil)) (pv 1)))
      (pss_cons (ps_asg (pe_op op_fdivW (pe_callTy call_int1 (by rfl) T.int (by decide +kernel) (pa_cons (pe_ix ix_list (pv 0) pe_int (fun _ _ => rfl)) pa_nil)) (pv 1)) (pg_sub (pv 0) pe_int set_list))
      (pss_one (ps_ret (pv 5))))), ?_⟩
    obtain ⟨⟨i, z, e⟩, hne, ns, hc⟩ := hs
    refine ⟨fun σ H2 => ∃ y2 y3 y4 : Option V, σ = [some (.ref s0), some (natV m), y2, y3, y4, none] ∧ But s0 H H2 ∧ Str3 H2 s0 c, ?_, ?_⟩
    · refine ⟨_, rfl, s0, _, 2, .int z, rfl, rfl, .inl (.inl e), atI_nat (j := 2) rfl, _, rfl, _, _, rfl, rfl, _, rfl, ?_⟩
      refine ite2 (fun _ => ?_) (fun _ => ⟨_, _, _, rfl, But.refl s0 H, i, z, e⟩)
      refine ⟨fun σ H2 => ∃ cell : Int, σ = [some (.ref s0), some (natV m), some (.int cell), none, none, none] ∧ H2 = H, ?_, ?_⟩
      · refine ⟨_, rfl, s0, _, 1, natV i, rfl, rfl, .inl (.inl e), atI_nat (j := 1) rfl, _, rfl, s0, _, 0, .ref c, rfl, rfl, .inl (.inl e), atI_nat (j := 0) rfl, c, _, rfl, .inl hc, _, _, rfl, rfl, _, rfl, ?_⟩
        refine ite2 (fun lt => ?_) (fun _ => ⟨0, rfl, rfl⟩)
        have lt' := of_decide_eq_true lt
        rw [List.length_map] at lt'
        have lt2 : i < ns.length := by omega
        refine ⟨_, rfl, s0, _, 0, .ref c, rfl, rfl, .inl (.inl e), atI_nat (j := 0) rfl, _, rfl, s0, _, 1, natV i, rfl, rfl, .inl (.inl e), atI_nat (j := 1) rfl, c, _, _, .int ns[i], rfl, rfl, hc, atI_nat (by rw [List.getElem?_map, List.getElem?_eq_getElem lt2]; rfl), ns[i], rfl, rfl⟩
      · rintro σ H2 ⟨cell, rfl, rfl⟩
        -- stream[1] = stream[1] + 1; stream[2] = cell
        refine ⟨_, rfl, s0, _, 1, natV i, rfl, rfl, .inl (.inl e), atI_nat (j := 1) rfl, _, _, rfl, rfl, _, rfl, s0, _, 1, 1, rfl, rfl, e, rfl, ?_⟩
        refine ⟨_, rfl, _, rfl, s0, _, 2, 2, rfl, rfl, upd_same, rfl, ?_⟩
        rw [upd_upd]
        have b1 : But s0 H2 (upd H2 s0 (.lst [.ref c, natV (i + 1), .int cell])) := But.upd s0 H2 _
        have e1 : (upd H2 s0 (.lst [.ref c, natV (i + 1), .int cell])) s0 = some (.lst [.ref c, natV (i + 1), .int cell]) := upd_same
        refine ⟨_, rfl, _, _, rfl, rfl, ⟨by decide, by decide, by decide⟩, _, _, rfl, rfl, _, rfl, ?_⟩
        refine ite2 (fun _ => ?_) (fun _ => ⟨_, _, _, rfl, b1, i + 1, cell, e1⟩)
        refine ⟨_, rfl, _, _, rfl, rfl, .inr ⟨by decide, by decide⟩, _, rfl, s0, _, 1, natV (i + 1), rfl, rfl, .inl (.inl e1), atI_nat (j := 1) rfl, _, _, rfl, rfl, .inr ⟨by decide, by decide⟩, _, _, rfl, rfl, .inl ⟨_, rfl, _, _, rfl, rfl, (show (0 : Int) < _ by decide), ?_⟩⟩
        refine ⟨_, rfl, _, _, rfl, rfl, .inr ⟨by decide, by decide⟩, _, rfl, _, _, rfl, rfl, .inr ⟨by decide, by decide⟩, _, _, rfl, rfl, _, _, rfl, rfl, .inl ⟨_, rfl, _, _, rfl, rfl, (show (0 : Int) < _ by decide), ?_⟩⟩
        refine ⟨_, rfl, _, _, rfl, rfl, .inr ⟨by decide, by decide⟩, _, rfl, _, _, rfl, rfl, _, _, rfl, rfl, ⟨by decide, by decide, by decide⟩, _, _, rfl, rfl, _, rfl, s0, _, 2, 2, rfl, rfl, e1, rfl, ?_⟩
        rw [upd_upd]
        exact ⟨_, _, _, rfl, But.upd s0 H2 _, i + 1, _, upd_same⟩
    · rintro σ H2 ⟨y2, y3, y4, rfl, b2, i2, z2, e2⟩
      have hmp : (0 : Int) < (m : Int) := by omega
      refine ⟨_, rfl, s0, _, 2, .int z2, rfl, rfl, .inl (.inl e2), atI_nat (j := 2) rfl, .inl ⟨_, rfl, _, rfl, z2, (m : Int), rfl, rfl, hmp, ?_⟩⟩
      refine ⟨_, rfl, s0, _, 2, .int z2, rfl, rfl, .inl (.inl e2), atI_nat (j := 2) rfl, .inl ⟨_, rfl, _, rfl, z2, (m : Int), rfl, rfl, wide_div hmp (b := 64) ?_ (by decide) (by decide), _, rfl, s0, _, 2, 2, rfl, rfl, e2, rfl, _, rfl, ?_⟩⟩
      · rw [Int.natAbs_natCast]
        exact Nat.lt_of_le_of_lt hm (by decide)
      · have h0 := Int.emod_nonneg z2 (show (m : Int) ≠ 0 by omega)
        have h1 := Int.emod_lt_of_pos z2 hmp
        have ev : V.int (z2 % (m : Int)) = natV (z2 % (m : Int)).toNat := by
          show _ = V.int (((z2 % (m : Int)).toNat : Nat) : Int)
          rw [Int.toNat_of_nonneg h0]
        have fin := k (z2 % (m : Int)).toNat (upd H2 s0 (.lst [.ref c, natV i2, .int (z2 / (m : Int))])) (by omega) (b2.trans (But.upd s0 H2 _)) ⟨i2, _, upd_same⟩
        rw [← ev] at fin
        exact fin
end
end K20

/-! K20LawD: shares, place, game. -/
namespace K20
open PySem PySem.Spec PyProof.Rows L2

/-! ### shares -/
theorem mk_add (a b : Int) (S : Nat) : mkRat a S + mkRat b S = mkRat (a + b) S := by
  rw [Rat.mkRat_eq_div, Rat.mkRat_eq_div, Rat.mkRat_eq_div, Rat.intCast_add]
  grind
theorem mk_one {S : Nat} (h : S ≠ 0) : mkRat (S : Int) S = 1 := by
  have e : mkRat ((S : Int) * 1) (S * 1) = mkRat 1 1 := Rat.mkRat_mul_left h
  rw [Int.mul_one, Nat.mul_one] at e
  rw [e]
  rfl
theorem mk_sum (S : Nat) : ∀ ks : List Nat, sm (ks.map fun k : Nat => mkRat (k : Int) S) (fun q => q) = mkRat ((ks.sum : Nat) : Int) S
  | [] => by
    show (0 : Rat) = mkRat ((0 : Nat) : Int) S
    rw [Int.natCast_zero, Rat.zero_mkRat]
  | k :: ks => by
    rw [List.map_cons, sm_cons, mk_sum S ks, mk_add, List.sum_cons, Int.natCast_add]
theorem mk_nonneg (k : Nat) (S : Nat) : 0 ≤ mkRat (k : Int) S := by
  rw [← Rat.divInt_ofNat]
  exact Rat.divInt_nonneg (by omega) (by omega)
theorem mk_wd {k S B : Nat} (hS : S ≠ 0) (hk : k ≤ B * S) (hd : S ∣ M0) : Wd M0 B (mkRat (k : Int) S) := by
  refine ⟨mk_nonneg k S, ?_, Nat.dvd_trans (den_mk_dvd _ S hS) hd⟩
  obtain ⟨d, hd2⟩ : ∃ d, B * S = k + d := ⟨B * S - k, by omega⟩
  have e : mkRat (k : Int) S + mkRat (d : Int) S = (B : Rat) := by
    have e1 : ((k : Int) + (d : Int)) = ((B * S : Nat) : Int) := by
      rw [hd2, Int.natCast_add]
    rw [mk_add, e1, Int.natCast_mul]
    have e2 : mkRat ((B : Int) * (S : Int)) (1 * S) = mkRat (B : Int) 1 := Rat.mkRat_mul_right hS
    rw [Nat.one_mul] at e2
    rw [e2, Rat.mkRat_eq_div, Rat.intCast_natCast]
    grind
  have h0 := mk_nonneg d S
  rw [← e]
  grind
theorem small_dvd {S : Nat} (h0 : 0 < S) (h : S ≤ 18) : S ∣ M0 := by
  have all : ∀ T : Fin 19, T.val ≠ 0 → M0 % T.val = 0 := by decide +kernel
  have := all ⟨S, by omega⟩ (by show S ≠ 0; omega)
  exact Nat.dvd_of_mod_eq_zero this
theorem sum_cast : ∀ ks : List Nat, (ks.map fun k : Nat => (k : Int)).sum = ((ks.sum : Nat) : Int)
  | [] => rfl
  | k :: ks => by rw [List.map_cons, List.sum_cons, sum_cast ks, List.sum_cons, Int.natCast_add]
theorem le_sum : ∀ {ks : List Nat} {k : Nat}, k ∈ ks → k ≤ ks.sum
  | x :: ks, k, h => by
    rw [List.sum_cons]
    rcases List.mem_cons.mp h with e | h
    · omega
    · have := le_sum h
      omega
theorem sum_le {B : Nat} : ∀ {ks : List Nat}, (∀ k ∈ ks, k ≤ B) → ks.sum ≤ ks.length * B
  | [], _ => Nat.zero_le _
  | x :: ks, h => by
    have h1 := h x List.mem_cons_self
    have h2 := sum_le fun k hk => h k (List.mem_cons_of_mem x hk)
    rw [List.sum_cons, List.length_cons, Nat.add_mul, Nat.one_mul]
    omega
theorem nu_mk {k S : Nat} (h : S ≠ 0) : [V.int ((k : Int) / gc (k : Int) (S : Int)), V.int ((S : Int) / gc (k : Int) (S : Int))] = nuL (mkRat (k : Int) S) := by
  unfold nuL
  rw [mk_num _ _ h, mk_den _ _ h]

def spShares (K : PySem.W.Frag) : Sp := fun vs H Q _ => ∃ (s c : Addr) (m : Nat), vs = [.ref s, natV m] ∧ Strm K H s c ∧ 1 ≤ m ∧ m ≤ 6 ∧
  ∀ (p : Addr) (xs : List V) (qs : List Rat) (H' : Hp), H p = none → But s H H' → Str3 H' s c → H' p = some (.lst xs) → qs.length = m → (∀ q ∈ qs, Wd M0 1 q) → sm qs (fun q => q) = 1 → DpAll K (nw H H') xs (qs.map nuD) → Q (.ref p) H'

section
variable {P : Program} {w : World} {K : PySem.W.Frag} {mg : Str → Option Value} {base : Heap}
theorem scShares : FnScope ["_law_stream", "_law_many", "_law_parts", "_law_turn", "_law_part"] ["_law_stream", "_law_many"] (defScope sShares) := ⟨rfl, rfl, rfl, by decide +kernel, rfl, by decide +kernel, by decide +kernel⟩
theorem ok_shares {f : Addr} {fd : FuncData} (F : Fun K "_law_shares" "_law_shares" sShares f fd) (T : Txt K mg) (cD : C8.Cal P w K mg base 1 "_law_draw" (spDraw K) []) (cN : C8.Cal P w K mg base 1 "_law_number" spNum []) :
    FnOk P w K mg base CX0 2 f fd ["_law_stream", "_law_many"] (spShares K) := by
  refine F.ok scShares (fun vs H Q E h => ?_) (fun cdv A outer s H vs Q E hr h => ?_)
  · obtain ⟨s0, c, m, rfl, _⟩ := h
    rfl
  · obtain ⟨s0, c, m, rfl, hs, hm1, hm6, k⟩ := h
    have nd := scShares.nd
    refine ⟨_, pss_cons (ps_set (i := 2) nd rfl (.inr rfl) (pe_lc (own := [("_law_turn", 3)]) (g := gName 3) (tt := tYes) rfl nd (pi_range1 rfl T.range (pa_cons (pv 1) pa_nil))
        (blkOk_by (N := ["_law_stream", "_law_many", "_law_parts", "_law_turn", "_law_part"]) (sc := defScope sShares) (by decide +kernel))
        (fun _ _ _ _ _ => by exact pg_name (i := 3) nd rfl (.inl rfl)) (fun _ _ _ _ _ => pts_nil)
        (fun _ _ _ _ _ => by exact pe_op op_add pe_int (C8.pe_c cD hr (by decide) (by rfl) (pa_cons (pv 0) (pa_cons pe_int pa_nil))))))
      (pss_one (ps_ret (pe_lc (own := [("_law_part", 4)]) (g := gName 4) (tt := tYes) (te := tCall spNum [] C8.E0 (tCons (tVar 4) (tCons (tCB (rSum K) (tCons (tVar 2) tNil)) tNil))) rfl nd (pi_list (pv 2))
        (blkOk_by (N := ["_law_stream", "_law_many", "_law_parts", "_law_turn", "_law_part"]) (sc := defScope sShares) (by decide +kernel))
        (fun _ _ _ _ _ => by exact pg_name (i := 4) nd rfl (.inl rfl)) (fun _ _ _ _ _ => pts_nil)
        (fun _ _ _ _ _ => by exact C8.pe_c cN hr (by decide) (by rfl) (pa_cons (pv 4) (pa_cons (pe_callB (cr_sum rfl) (by rfl) T.sum (by decide +kernel) (pa_cons (pv 2) pa_nil)) pa_nil)))))), ?_⟩
    -- parts
    refine ⟨_, rfl, (m : Int), rfl, by omega, by omega, fun D hD => ?_⟩
    have hDs : D ≠ s0 := fun z => hs.at3.there (z ▸ hD)
    refine lc_range (lo := 0) (n := m) (fun j H1 => But s0 H H1 ∧ Str3 H1 s0 c ∧ ∃ ks : List Nat, H1 D = some (.lst (ks.map natV)) ∧ ks.length = j ∧ ∀ a ∈ ks, 1 ≤ a ∧ a ≤ 3)
      ⟨But.of_same (same_upd hD), hs.at3.upd hDs, [], upd_same, rfl, fun a ha => by cases ha⟩ ?_ ?_
    · rintro j H1 hj ⟨b1, st1, ks, eD, hl, hk⟩
      refine ⟨rfl, _, rfl, s0, c, 3, rfl, hs.on b1 st1, by decide, by decide, fun v H2 hv b2 st2 => ⟨_, _, rfl, rfl, _, b2 _ _ hDs eD, ?_, ?_, ?_, ks ++ [1 + v], ?_, ?_, ?_⟩⟩
      · rw [List.length_map]
        exact small1000 (by omega)
      · intro b o n e
        rw [upd_ne (ne_of_none e hD)]
        exact b2 b o n (b1 b o n e)
      · exact st2.upd hDs
      · rw [upd_same, List.map_append]
        show some (HO.lst (ks.map natV ++ [V.int (1 + (v : Int))])) = some (HO.lst (ks.map natV ++ [V.int ((1 + v : Nat) : Int)]))
        rw [Int.natCast_add]
        rfl
      · rw [List.length_append, hl]
        rfl
      · intro a ha
        rcases List.mem_append.mp ha with ha | ha
        · exact hk a ha
        · rw [List.mem_singleton.mp ha]
          omega
    · rintro H1 ⟨b1, st1, ks, eD, hl, hk⟩
      have hS0 : 0 < ks.sum := by
        cases ks with
        | nil => simp at hl; omega
        | cons a ks =>
          have := hk a List.mem_cons_self
          rw [List.sum_cons]
          omega
      have hS18 : ks.sum ≤ 18 := by
        have := sum_le (B := 3) fun a ha => (hk a ha).2
        omega
      have hSn : ks.sum ≠ 0 := by omega
      -- [_law_number(part, sum(parts)) for part in parts]
      refine ⟨_, rfl, D, rfl, ⟨_, .inl (.inl eD)⟩, fun D2 hD2 => ?_⟩
      have hDD : D ≠ D2 := ne_of_none eD hD2
      have hD2s : D2 ≠ s0 := fun z => st1.there (z ▸ hD2)
      have k01 : Kps H H1 := b1.kps (Exists.choose_spec st1.lst)
      have hD2H : H D2 = none := k01 _ hD2
      refine lc_list (K := K) (a := D) (xs := ks.map natV) (fun j H2 => Same H1 H2 ∧ ∃ xs, H2 D2 = some (.lst xs) ∧ DpAll K (nw H H2) xs (((ks.take j).map fun a : Nat => mkRat (a : Int) ks.sum).map nuD))
        ⟨same_upd hD2, [], upd_same, .nil⟩ (fun j H2 _ z => z.1.seq (.inl (.inl eD))) ?_ ?_
      · rintro j x H2 hx ⟨s2, xs, e2, ha⟩
        rw [List.getElem?_map] at hx
        obtain ⟨a, ea, rfl⟩ := Option.map_eq_some_iff.mp hx
        have hjl : j < ks.length := (List.getElem?_eq_some_iff.mp ea).1
        have eD2 : H2 D = some (.lst (ks.map natV)) := s2 _ _ eD
        refine ⟨rfl, _, rfl, _, rfl, D, ks.map (fun a : Nat => (a : Int)), rfl, .inl (.inl (by rw [eD2, List.map_map]; rfl)), (a : Int), _, rfl, ?_, ?_, fun t ht => ?_⟩
        · rw [sum_cast]
          omega
        · rw [sum_cast, Int.natAbs_natCast]
          exact Nat.lt_of_le_of_lt hS18 (by decide)
        · rw [sum_cast, nu_mk hSn]
          have s3 := same_upd (o := .tup (nuL (mkRat (a : Int) ks.sum))) ht
          have hxl : xs.length = j := by
            rw [all_len ha, List.length_map, List.length_map, List.length_take]
            omega
          refine ⟨xs, s3 _ _ e2, small1000 (by omega), fun b o e => ?_, _, upd_same, ?_⟩
          · rw [upd_ne (ne_of_none e hD2)]
            exact s3 b o (s2 b o e)
          · have htH : H t = none := k01 _ (s2.free ht)
            have n3 : Nu K (nw H (upd H2 t (.tup (nuL (mkRat (a : Int) ks.sum))))) (.ref t) (mkRat (a : Int) ks.sum) := ⟨t, rfl, .inl (.inl (by rw [nw_at htH, upd_same]))⟩
            have a3 := all_app (dpAll_same (nw_same (H := H) s3) _ _ ha) (.cons (nu_dp n3) .nil)
            rw [List.take_add_one, ea, List.map_append, List.map_append]
            have eq2 : (nw H (upd H2 t (.tup (nuL (mkRat (a : Int) ks.sum))))) D2 = some (.lst xs) := by
              rw [nw_at hD2H]
              exact s3 _ _ e2
            have a4 := but_nus (nw_but (H := H) (But.upd D2 (upd H2 t (.tup (nuL (mkRat (a : Int) ks.sum)))) (.lst (xs ++ [.ref t])))) eq2 (qs := (ks.take j).map (fun a : Nat => mkRat (a : Int) ks.sum) ++ [mkRat (a : Int) ks.sum]) (by rw [List.map_append]; exact a3)
            rw [List.map_append] at a4
            exact a4
      · rintro H2 ⟨s2, xs, e2, ha⟩
        rw [List.length_map, List.take_length] at ha
        refine k D2 xs _ H2 hD2H (b1.trans (But.of_same s2)) (st1.same s2) e2 (by rw [List.length_map]; exact hl) ?_ ?_ ha
        · intro q hq
          obtain ⟨a, ha, rfl⟩ := List.mem_map.mp hq
          refine mk_wd hSn ?_ (small_dvd hS0 hS18)
          have := le_sum ha
          omega
        · rw [mk_sum, mk_one hSn]
end
end K20

/-! K20LawE: place, game. -/
namespace K20
open PySem PySem.Spec PyProof.Rows L2

theorem ne_od : ¬ (V.str ("draw" : Str) = V.str ("ours" : Str)) := by decide +kernel
/-- the words of the law's places -/
def Word (z : Str) : Prop := z = ("draw" : Str) ∨ z = ("reward" : Str) ∨ z = ("finish" : Str) ∨ z = ("lose" : Str)
def sizes : List V := [.int 1, .int 2, .int 2, .int 3, .int 2, .int 6]
theorem sizes_at : ∀ {v : Nat}, v < 6 → ∃ m : Nat, 1 ≤ m ∧ m ≤ 6 ∧ atI sizes (v : Int) = some (natV m)
  | 0, _ => ⟨1, by decide, by decide, rfl⟩
  | 1, _ => ⟨2, by decide, by decide, rfl⟩
  | 2, _ => ⟨2, by decide, by decide, rfl⟩
  | 3, _ => ⟨3, by decide, by decide, rfl⟩
  | 4, _ => ⟨2, by decide, by decide, rfl⟩
  | 5, _ => ⟨6, by decide, by decide, rfl⟩
  | v + 6, h => by omega
theorem sm_fst (bs : List (Rat × Nat)) : sm bs (·.1) = sm (bs.map (·.1)) fun q => q := by rw [sm_map]

def spPlace (K : PySem.W.Frag) : Sp := fun vs H Q _ => ∃ (s c : Addr) (z : Str) (n : Nat), vs = [.ref s, .str z, natV n] ∧ Strm K H s c ∧ Word z ∧ 0 < n ∧ n ≤ 10 ∧
  ∀ (v : V) (pl : Pl) (H' : Hp), WfP n pl → But s H H' → Str3 H' s c → Dp K (nw H H') v (plD pl) → Q v H'

section
variable {P : Program} {w : World} {K : PySem.W.Frag} {mg : Str → Option Value} {base : Heap}
theorem scPlace : FnScope ["_law_stream", "_law_kind", "_law_many", "_law_shares_here", "_law_amount", "_law_share"] ["_law_stream", "_law_kind", "_law_many"] (defScope sPlace) := ⟨rfl, rfl, rfl, by decide +kernel, rfl, by decide +kernel, by decide +kernel⟩
theorem ok_place {f : Addr} {fd : FuncData} (F : Fun K "_law_place" "_law_place" sPlace f fd) (T : Txt K mg) (cD : C8.Cal P w K mg base 1 "_law_draw" (spDraw K) []) (cN : C8.Cal P w K mg base 1 "_law_number" spNum []) (cS : C8.Cal P w K mg base 2 "_law_shares" (spShares K) []) :
    FnOk P w K mg base CX0 3 f fd ["_law_stream", "_law_kind", "_law_many"] (spPlace K) := by
  refine F.ok scPlace (fun vs H Q E h => ?_) (fun cdv A outer s H vs Q E hr h => ?_)
  · obtain ⟨s0, c, z, n, rfl, _⟩ := h
    rfl
  · obtain ⟨s0, c, z, n, rfl, hs, hz, hn0, hn, k⟩ := h
    have nd := scPlace.nd
    refine ⟨_, pss_cons (ps_if (pt_cmpR op_eq (pv 1) pe_str (nomark _))
        (pss_cons (ps_set (i := 3) nd rfl (.inl rfl) (C8.pe_c cS hr (by decide) (by rfl) (pa_cons (pv 0) (pa_cons
          (pe_ix ix_list (pe_lst (pa_cons pe_int (pa_cons pe_int (pa_cons pe_int (pa_cons pe_int (pa_cons pe_int (pa_cons pe_int pa_nil))))))) (C8.pe_c cD hr (by decide) (by rfl) (pa_cons (pv 0) (pa_cons pe_int pa_nil))) (fun _ _ => rfl)) pa_nil))))
        (pss_one (ps_ret (pe_tup (pa_cons pe_str (pa_cons (pe_lc (own := [("_law_share", 5)]) (g := gName 5) (tt := tYes) rfl nd (pi_list (pv 3))
          (blkOk_by (N := ["_law_stream", "_law_kind", "_law_many", "_law_shares_here", "_law_amount", "_law_share"]) (sc := defScope sPlace) (by decide +kernel))
          (fun _ _ _ _ _ => by exact pg_name (i := 5) nd rfl (.inl rfl)) (fun _ _ _ _ _ => pts_nil)
          (fun _ _ _ _ _ => by exact pe_tup (pa_cons (pv 5) (pa_cons (C8.pe_c cD hr (by decide) (by rfl) (pa_cons (pv 0) (pa_cons (pv 2) pa_nil))) pa_nil)))) pa_nil)))))) pss_nil)
      (pss_cons (ps_if (PW.pt (pw_or (pt_cmpR op_eq (pv 1) pe_str (nomark _)) (pw_or1 (pt_cmpR op_eq (pv 1) pe_str (nomark _))))) (pss_one ps_never) pss_nil)
      (pss_cons (ps_if (pt_cmpR op_eq (pv 1) pe_str (nomark _))
        (pss_cons (ps_set (i := 4) nd rfl (.inl rfl) (C8.pe_c cN hr (by decide) (by rfl) (pa_cons (C8.pe_c cD hr (by decide) (by rfl) (pa_cons (pv 0) (pa_cons pe_int pa_nil))) (pa_cons (pe_op op_add pe_int (C8.pe_c cD hr (by decide) (by rfl) (pa_cons (pv 0) (pa_cons pe_int pa_nil)))) pa_nil))))
        (pss_one (ps_ret (pe_tup (pa_cons pe_str (pa_cons (pv 4) (pa_cons (C8.pe_c cD hr (by decide) (by rfl) (pa_cons (pv 0) (pa_cons (pv 2) pa_nil))) pa_nil))))))) pss_nil)
      (pss_one (ps_ret (pe_tup (pa_cons (pv 1) pa_nil)))))), ?_⟩
    have hsn := hs.at3.there
    rcases hz with rfl | rfl | rfl | rfl
    · -- draw
      refine ⟨_, rfl, rfl, _, rfl, iteY rfl ?_⟩
      refine ⟨_, rfl, (by show 6 ≤ sizeLine; decide), fun D1 hD1 => ?_⟩
      have s1 := same_upd (o := .lst sizes) hD1
      have hD1s : D1 ≠ s0 := fun z => hsn (z ▸ hD1)
      refine ⟨_, rfl, s0, c, 6, rfl, hs.same s1, by decide, by decide, fun v H2 hv b2 st2 => ?_⟩
      obtain ⟨m, hm1, hm6, em⟩ := sizes_at hv
      have b02 : But s0 H H2 := (But.of_same s1).trans b2
      refine ⟨D1, sizes, (v : Int), natV m, rfl, rfl, .inl (.inl (b2 _ _ hD1s upd_same)), em, s0, c, m, rfl, hs.on b02 st2, hm1, hm6, fun p xs qs H3 hp b3 st3 ep hq hqw hqs hx => ?_⟩
      have b03 := b02.trans b3
      have k02 : Kps H H2 := b02.kps (Exists.choose_spec st2.lst)
      have k03 : Kps H H3 := b03.kps (Exists.choose_spec st3.lst)
      have hps : p ≠ s0 := fun z => st2.there (z ▸ hp)
      have hxl : xs.length = qs.length := by rw [all_len hx, List.length_map]
      refine ⟨_, rfl, p, rfl, ⟨xs, .inl (.inl ep)⟩, fun D hD => ?_⟩
      have hDs : D ≠ s0 := fun z => st3.there (z ▸ hD)
      have hDH : H D = none := k03 _ hD
      refine lc_list (K := K) (a := p) (xs := xs) (fun j H4 => But s0 H3 H4 ∧ Str3 H4 s0 c ∧ ∃ (acc : List V) (bs : List (Rat × Nat)), H4 D = some (.lst acc) ∧ bs.length = j ∧ bs.map (·.1) = qs.take j ∧ (∀ b ∈ bs, b.2 < n) ∧ DpAll K (nw H H4) acc (bs.map brD))
        ⟨But.of_same (same_upd hD), st3.upd hDs, [], [], upd_same, rfl, rfl, (fun b hb => by cases hb), .nil⟩ (fun j H4 _ z => but_L z.1 hps (.inl (.inl ep))) ?_ ?_
      · rintro j x H4 hx4 ⟨b4, st4, acc, bs, eD, hbl, hbq, hbn, ha⟩
        have hjl : j < qs.length := by
          rw [← hxl]
          exact (List.getElem?_eq_some_iff.mp hx4).1
        obtain ⟨d, ed, hdp⟩ := all_getV hx hx4
        rw [List.getElem?_map, List.getElem?_eq_getElem hjl] at ed
        have ed' : nuD qs[j] = d := Option.some.inj ed
        rw [← ed'] at hdp
        refine ⟨rfl, _, rfl, _, rfl, _, rfl, s0, c, n, rfl, hs.on (b03.trans b4) st4, hn0, by omega, fun v2 H5 hv2 b5 st5 => ⟨(by show 2 ≤ sizeLine; decide), fun t ht => ?_⟩⟩
        have s6 := same_upd (o := .tup [x, natV v2]) ht
        have b36 : But s0 H3 (upd H5 t (.tup [x, natV v2])) := (b4.trans b5).trans (But.of_same s6)
        have hal : acc.length = j := by rw [all_len ha, List.length_map, hbl]
        have eD5 : H5 D = some (.lst acc) := b5 _ _ hDs eD
        have eD6 := s6 _ _ eD5
        refine ⟨acc, eD6, small1000 (by omega), ?_, ?_, acc ++ [.ref t], bs ++ [(qs[j], v2)], upd_same, by rw [List.length_append, hbl]; rfl, ?_, ?_, ?_⟩
        · intro b o nb e
          rw [upd_ne (ne_of_none e hD)]
          exact b36 b o nb e
        · exact (st5.same s6).upd hDs
        · rw [List.map_append, hbq, List.take_add_one, List.getElem?_eq_getElem hjl]
          rfl
        · intro b hb
          rcases List.mem_append.mp hb with hb | hb
          · exact hbn b hb
          · rw [List.mem_singleton.mp hb]
            exact hv2
        · have htH : H t = none := k03 _ ((b4.trans b5).kps (Exists.choose_spec st5.lst) _ ht)
          have nx6 : Nu K (nw H (upd H5 t (.tup [x, natV v2]))) x qs[j] := ((dp_nu hdp).same (nw_left k02)).same (nw_right b36 hsn)
          have a6 : DpAll K (nw H (upd H5 t (.tup [x, natV v2]))) acc (bs.map brD) := dpAll_same (nw_right (b5.trans (But.of_same s6)) hsn) _ _ ha
          have t6 : Dp K (nw H (upd H5 t (.tup [x, natV v2]))) (.ref t) (brD (qs[j], v2)) := br_dp (b := (qs[j], v2)) (.inl (.inl (by rw [nw_at htH, upd_same]))) nx6
          have eD6' : (nw H (upd H5 t (.tup [x, natV v2]))) D = some (.lst acc) := by
            rw [nw_at hDH]
            exact eD6
          have a7 := all_app a6 (.cons t6 .nil)
          have e7 : bs.map brD ++ [brD (qs[j], v2)] = (bs ++ [(qs[j], v2)]).map brD := by rw [List.map_append]; rfl
          rw [e7] at a7
          exact but_brs (nw_but (But.upd D _ _)) eD6' a7
      · rintro H4 ⟨b4, st4, acc, bs, eD, hbl, hbq, hbn, ha⟩
        rw [hxl] at hbl hbq
        rw [List.take_length] at hbq
        refine ⟨(by show 2 ≤ sizeLine; decide), fun t ht => ?_⟩
        have s5 := same_upd (o := .tup [.str ("draw" : Str), .ref D]) ht
        have b05 : But s0 H (upd H4 t (.tup [.str ("draw" : Str), .ref D])) := (b03.trans b4).trans (But.of_same s5)
        have htH : H t = none := k03 _ (b4.kps (Exists.choose_spec st4.lst) _ ht)
        refine k (.ref t) (.draw bs) _ ⟨fun bs' e => ?_, (fun q x e => by cases e)⟩ b05 (st4.same s5) ?_
        · cases e
          refine ⟨fun z => ?_, by omega, fun b hb => ⟨hbn b hb, hqw _ (by rw [← hbq]; exact List.mem_map.mpr ⟨b, hb, rfl⟩)⟩, by rw [sm_fst, hbq]; exact hqs⟩
          rw [z] at hbl
          simp at hbl
          omega
        · refine .tup (.inl (.inl (by rw [nw_at htH, upd_same]))) (.cons (.str _) (.cons (.lst (.inl (.inl (by rw [nw_at hDH]; exact s5 _ _ eD))) (dpAll_same (nw_same s5) _ _ ha)) .nil))
    · -- reward
      refine ⟨_, rfl, rfl, _, rfl, iteN ne_rd ?_⟩
      refine ⟨_, rfl, rfl, _, rfl, iteN ne_ro ?_⟩
      refine ⟨_, rfl, rfl, _, rfl, iteN ne_rt ?_⟩
      refine ⟨_, rfl, rfl, _, rfl, iteY rfl ?_⟩
      refine ⟨_, rfl, s0, c, 5, rfl, hs, by decide, by decide, fun v1 H1 hv1 b1 st1 => ?_⟩
      refine ⟨_, rfl, s0, c, 3, rfl, hs.on b1 st1, by decide, by decide, fun v2 H2 hv2 b2 st2 => ⟨_, _, rfl, rfl, ?_⟩⟩
      have e3 : (1 : Int) + (v2 : Int) = ((1 + v2 : Nat) : Int) := by rw [Int.natCast_add]; rfl
      have b02 := b1.trans b2
      have k02 : Kps H H2 := b02.kps (Exists.choose_spec st2.lst)
      refine ⟨(v1 : Int), ((1 + v2 : Nat) : Int), by rw [← e3]; rfl, by omega, ?_, fun p hp => ?_⟩
      · rw [Int.natAbs_natCast]
        exact Nat.lt_of_le_of_lt (show 1 + v2 ≤ 3 by omega) (by decide)
      · rw [nu_mk (show 1 + v2 ≠ 0 by omega)]
        have s3 := same_upd (o := .tup (nuL (mkRat (v1 : Int) (1 + v2)))) hp
        have hpH : H p = none := k02 _ hp
        have n3 : Nu K (nw H (upd H2 p (.tup (nuL (mkRat (v1 : Int) (1 + v2)))))) (.ref p) (mkRat (v1 : Int) (1 + v2)) := ⟨p, rfl, .inl (.inl (by rw [nw_at hpH, upd_same]))⟩
        have b03 := b02.trans (But.of_same s3)
        have st3 := st2.same s3
        refine ⟨_, rfl, _, rfl, _, rfl, s0, c, n, rfl, hs.on b03 st3, hn0, by omega, fun v3 H4 hv3 b4 st4 => ⟨(by show 3 ≤ sizeLine; decide), fun t ht => ?_⟩⟩
        have s5 := same_upd (o := .tup [.str ("reward" : Str), .ref p, natV v3]) ht
        have b04 := b03.trans b4
        have htH : H t = none := b04.kps (Exists.choose_spec st4.lst) _ ht
        refine k (.ref t) (.rew (mkRat (v1 : Int) (1 + v2)) v3) _ ⟨(fun bs' e => by cases e), fun q x e => ?_⟩ (b04.trans (But.of_same s5)) (st4.same s5) ?_
        · cases e
          exact ⟨hv3, mk_wd (by omega) (by omega) (small_dvd (by omega) (by omega))⟩
        · refine .tup (.inl (.inl (by rw [nw_at htH, upd_same]))) (.cons (.str _) (.cons (nu_dp ((n3.same (nw_right b4 hsn)).same (nw_same s5))) (.cons (.int _) .nil)))
    · -- finish
      refine ⟨_, rfl, rfl, _, rfl, iteN ne_fd ?_⟩
      refine ⟨_, rfl, rfl, _, rfl, iteN ne_fo ?_⟩
      refine ⟨_, rfl, rfl, _, rfl, iteN ne_ft ?_⟩
      refine ⟨_, rfl, rfl, _, rfl, iteN ne_fr ?_⟩
      refine ⟨_, rfl, (by show 1 ≤ sizeLine; decide), fun t ht => ?_⟩
      have s1 := same_upd (o := .tup [.str ("finish" : Str)]) ht
      exact k (.ref t) .fin _ ⟨(fun bs e => by cases e), (fun q x e => by cases e)⟩ (But.of_same s1) (hs.at3.same s1) (.tup (.inl (.inl (by rw [nw_at ht, upd_same]))) (.cons (.str _) .nil))
    · -- lose
      refine ⟨_, rfl, rfl, _, rfl, iteN ne_ld ?_⟩
      refine ⟨_, rfl, rfl, _, rfl, iteN ne_lo ?_⟩
      refine ⟨_, rfl, rfl, _, rfl, iteN ne_lt ?_⟩
      refine ⟨_, rfl, rfl, _, rfl, iteN ne_lr ?_⟩
      refine ⟨_, rfl, (by show 1 ≤ sizeLine; decide), fun t ht => ?_⟩
      have s1 := same_upd (o := .tup [.str ("lose" : Str)]) ht
      exact k (.ref t) .lose _ ⟨(fun bs e => by cases e), (fun q x e => by cases e)⟩ (But.of_same s1) (hs.at3.same s1) (.tup (.inl (.inl (by rw [nw_at ht, upd_same]))) (.cons (.str _) .nil))
end
end K20

/-! K20LawF: game. -/
namespace K20
open PySem PySem.Spec PyProof.Rows L2

def kinds : List V := [.str "draw", .str "draw", .str "draw", .str "reward", .str "finish", .str "lose"]
theorem kinds_at : ∀ {v : Nat}, v < 6 → ∃ z : Str, Word z ∧ atI kinds (v : Int) = some (.str z)
  | 0, _ => ⟨_, .inl rfl, rfl⟩
  | 1, _ => ⟨_, .inl rfl, rfl⟩
  | 2, _ => ⟨_, .inl rfl, rfl⟩
  | 3, _ => ⟨_, .inr (.inl rfl), rfl⟩
  | 4, _ => ⟨_, .inr (.inr (.inl rfl)), rfl⟩
  | 5, _ => ⟨_, .inr (.inr (.inr rfl)), rfl⟩
  | v + 6, h => by omega
def spGame (K : PySem.W.Frag) : Sp := fun vs H Q _ => ∃ (s c kd : Addr), vs = [.ref s, .int 5, .ref kd] ∧ Strm K H s c ∧ SqL K H kd kinds ∧ kd ≠ s ∧
  ∀ (g : Addr) (ps : List Pl) (H' : Hp), Wf ps → But s H H' → Str3 H' s c → Dp K (nw H H') (.ref g) (chD ps) → Q (.ref g) H'
theorem wf_fin (n : Nat) : WfP n .fin := ⟨(fun bs e => by cases e), (fun q x e => by cases e)⟩

section
variable {P : Program} {w : World} {K : PySem.W.Frag} {mg : Str → Option Value} {base : Heap}
theorem scGame : FnScope ["_law_stream", "_law_most", "_law_kinds", "_law_many", "_law_game_here", "_law_place_here"] ["_law_stream", "_law_most", "_law_kinds"] (defScope sGame) := ⟨rfl, rfl, rfl, by decide +kernel, rfl, by decide +kernel, by decide +kernel⟩
theorem ok_game {f : Addr} {fd : FuncData} (F : Fun K "_law_game" "_law_game" sGame f fd) (T : Txt K mg) (cD : C8.Cal P w K mg base 1 "_law_draw" (spDraw K) []) (cP : C8.Cal P w K mg base 3 "_law_place" (spPlace K) []) :
    FnOk P w K mg base CX0 4 f fd ["_law_stream", "_law_most", "_law_kinds"] (spGame K) := by
  refine F.ok scGame (fun vs H Q E h => ?_) (fun cdv A outer s H vs Q E hr h => ?_)
  · obtain ⟨s0, c, kd, rfl, _⟩ := h
    rfl
  · obtain ⟨s0, c, kd, rfl, hs, hkd, hks, k⟩ := h
    have nd := scGame.nd
    refine ⟨_, pss_cons (ps_set (i := 3) nd rfl (.inr rfl) (pe_op op_add pe_int (C8.pe_c cD hr (by decide) (by rfl) (pa_cons (pv 0) (pa_cons (pv 1) pa_nil)))))
      (C8.pss_cut (ps_if (pt_cmpR op_eq (C8.pe_c cD hr (by decide) (by rfl) (pa_cons (pv 0) (pa_cons pe_int pa_nil))) pe_int (nomark _)) (pss_one (ps_set (i := 3) nd rfl (.inr rfl) (pe_op op_add (pv 1) pe_int))) pss_nil)
      (pss_cons (ps_setLc (i := 4) (own := [("_law_place_here", 5)]) (g := gName 5) (tt := tYes) (te := tCall (spPlace K) [] C8.E0 (tCons (tVar 0) (tCons (tOp (rIxL K) (tVar 2) (tCall (spDraw K) [] C8.E0 (tCons (tVar 0) (tCons (tCB (fun xs H Q => ∃ p ys, xs = [.ref p] ∧ (SqL K H p ys ∨ SqT K H p ys) ∧ Q (.int ys.length) H) (tCons (tVar 2) tNil)) tNil)))) (tCons (tVar 3) tNil)))) rfl nd rfl rfl (sw_true rfl rfl rfl (by decide +kernel))
        (pi_range1 rfl T.range (pa_cons (pv 3) pa_nil))
        (blkOk_by (N := ["_law_stream", "_law_most", "_law_kinds", "_law_many", "_law_game_here", "_law_place_here"]) (sc := defScope sGame) (by decide +kernel))
        (fun _ _ _ _ _ => by exact pg_name (i := 5) nd rfl (.inl rfl)) (fun _ _ _ _ _ => pts_nil)
        (fun _ _ _ _ _ => by exact C8.pe_c cP hr (by decide) (by rfl) (pa_cons (pv 0) (pa_cons (pe_ix ix_list (pv 2) (C8.pe_c cD hr (by decide) (by rfl) (pa_cons (pv 0) (pa_cons (pe_callB call_len_seq (by rfl) T.len PySem.boot_len (pa_cons (pv 2) pa_nil)) pa_nil))) (fun _ _ => rfl)) (pa_cons (pv 3) pa_nil)))))
      (pss_cons (ps_if (pt_cmpR op_gt (C8.pe_c cD hr (by decide) (by rfl) (pa_cons (pv 0) (pa_cons pe_int pa_nil))) pe_int (nomark _)) (pss_one (ps_asg (pe_tup (pa_cons pe_str pa_nil)) (pg_sub (pv 4) (pe_op op_sub (pv 3) pe_int) set_list))) pss_nil)
      (pss_one (ps_ret (pv 4)))))), ?_⟩
    have hsn := hs.at3.there
    -- many
    refine ⟨_, rfl, _, rfl, s0, c, 5, rfl, hs, by decide, by decide, fun v1 H1 hv1 b1 st1 => ⟨_, _, rfl, rfl, ?_⟩⟩
    refine ⟨fun σ H2 => ∃ n : Nat, 0 < n ∧ n ≤ 10 ∧ σ = [some (.ref s0), some (.int 5), some (.ref kd), some (natV n), none, none] ∧ But s0 H H2 ∧ Str3 H2 s0 c, ?_, ?_⟩
    · have e1 : (1 : Int) + (v1 : Int) = ((1 + v1 : Nat) : Int) := by rw [Int.natCast_add]; rfl
      refine ⟨_, rfl, s0, c, 16, rfl, hs.on b1 st1, by decide, by decide, fun v2 H2 hv2 b2 st2 => ⟨rfl, _, rfl, ?_⟩⟩
      refine ite2 (fun _ => ?_) (fun _ => ?_)
      · exact ⟨_, rfl, _, _, rfl, rfl, 10, by decide, by decide, rfl, b1.trans b2, st2⟩
      · refine ⟨1 + v1, by omega, by omega, ?_, b1.trans b2, st2⟩
        show [some (V.ref s0), some (V.int 5), some (V.ref kd), some (V.int (1 + (v1 : Int))), none, none] = _
        rw [e1]
    · rintro σ H2 ⟨n, hn0, hn10, rfl, b2, st2⟩
      have k02 : Kps H H2 := b2.kps (Exists.choose_spec st2.lst)
      refine ⟨_, rfl, (n : Int), rfl, by omega, by omega, fun D hD => ?_⟩
      have hDs : D ≠ s0 := fun z => st2.there (z ▸ hD)
      have hDH : H D = none := k02 _ hD
      have sD := same_upd (o := .lst []) hD
      have kD : Kps H (upd H2 D (.lst [])) := k02.trans (Kps.of_same sD)
      have eDn : (upd H2 D (.lst [])) D ≠ none := by
        rw [upd_same]
        exact fun z => by cases z
      have esn : (upd H2 D (.lst [])) s0 ≠ none := by
        rw [upd_ne hDs.symm]
        exact st2.there
      refine lc_range (lo := 0) (n := n) (fun j H3 => But s0 H2 H3 ∧ Str3 H3 s0 c ∧ Kps (upd H2 D (.lst [])) H3 ∧ ∃ (acc : List V) (ps : List Pl), H3 D = some (.lst acc) ∧ ps.length = j ∧ (∀ p ∈ ps, WfP n p) ∧ DpAll K (nw (upd H2 D (.lst [])) H3) acc (ps.map plD))
        ⟨But.of_same sD, st2.upd hDs, Kps.refl _, [], [], upd_same, rfl, (fun p hp => by cases hp), .nil⟩ ?_ ?_
      · rintro j H3 hj ⟨b3, st3, k3, acc, ps, eD, hl, hw, ha⟩
        have b03 := b2.trans b3
        -- kinds[draw(stream, len(kinds))]
        refine ⟨rfl, _, rfl, _, rfl, _, rfl, _, rfl, kd, kinds, rfl, .inl (but_L b03 hks hkd), s0, c, 6, rfl, hs.on b03 st3, by decide, by decide, fun v4 H4 hv4 b4 st4 => ?_⟩
        obtain ⟨z, hz, ez⟩ := kinds_at hv4
        have b04 := b03.trans b4
        refine ⟨kd, kinds, (v4 : Int), .str z, rfl, rfl, but_L b04 hks hkd, ez, _, rfl, s0, c, z, n, rfl, hs.on b04 st4, hz, hn0, hn10, fun v pl H5 hpl b5 st5 hv5 => ?_⟩
        have eD4 := b4 _ _ hDs eD
        have eD5 := b5 _ _ hDs eD4
        have hal : acc.length = j := by rw [all_len ha, List.length_map, hl]
        have k4 : Kps (upd H2 D (.lst [])) H4 := k3.trans (b4.kps (Exists.choose_spec st4.lst))
        have k5 : Kps (upd H2 D (.lst [])) H5 := k4.trans (b5.kps (Exists.choose_spec st5.lst))
        refine ⟨acc, eD5, small1000 (by omega), ?_, st5.upd hDs, k5.trans (Kps.upd _ _ _), acc ++ [v], ps ++ [pl], upd_same, by rw [List.length_append, hl]; rfl, ?_, ?_⟩
        · intro b o nb e
          rw [upd_ne (ne_of_none e hD)]
          exact b5 b o nb (b4 b o nb (b3 b o nb e))
        · intro p hp
          rcases List.mem_append.mp hp with hp | hp
          · exact hw p hp
          · rw [List.mem_singleton.mp hp]
            exact hpl
        · have a5 : DpAll K (nw (upd H2 D (.lst [])) H5) acc (ps.map plD) := dpAll_same (nw_right (b4.trans b5) esn) _ _ ha
          have v5 : Dp K (nw (upd H2 D (.lst [])) H5) v (plD pl) := dp_same (nw_left k4) _ _ hv5
          have a6 := all_app a5 (.cons v5 .nil)
          have e6 : ps.map plD ++ [plD pl] = (ps ++ [pl]).map plD := by rw [List.map_append]; rfl
          rw [e6] at a6
          exact dpAll_same (nw_right (But.upd D _ _) eDn) _ _ a6
      · rintro H3 ⟨b3, st3, k3, acc, ps, eD, hl, hw, ha⟩
        have b03 := b2.trans b3
        have hal : acc.length = n := by rw [all_len ha, List.length_map, hl]
        refine ⟨_, rfl, s0, c, 3, rfl, hs.on b03 st3, by decide, by decide, fun v4 H4 hv4 b4 st4 => ⟨_, _, rfl, rfl, _, rfl, ?_⟩⟩
        have b04 := b03.trans b4
        have eD4 := b4 _ _ hDs eD
        have a4 : DpAll K (nw (upd H2 D (.lst [])) H4) acc (ps.map plD) := dpAll_same (nw_right b4 esn) _ _ ha
        have k4 : Kps (upd H2 D (.lst [])) H4 := k3.trans (b4.kps (Exists.choose_spec st4.lst))
        refine ite2 (fun _ => ?_) (fun _ => ?_)
        · refine ⟨(by show 1 ≤ sizeLine; decide), fun t ht => ?_⟩
          have s5 := same_upd (o := .tup [.str ("finish" : Str)]) ht
          have hn1 : (n : Int) - 1 = ((n - 1 : Nat) : Int) := by omega
          refine ⟨_, rfl, _, rfl, _, _, rfl, rfl, D, acc, _, n - 1, rfl, rfl, s5 _ _ eD4, by rw [hn1]; exact ixN_nat (by omega), ?_⟩
          have htU : (upd H2 D (.lst [])) t = none := k4 _ ht
          have f5 : Dp K (nw (upd H2 D (.lst [])) (upd H4 t (.tup [.str ("finish" : Str)]))) (.ref t) (plD .fin) := .tup (.inl (.inl (by rw [nw_at htU, upd_same]))) (.cons (.str _) .nil)
          have a5 : DpAll K (nw (upd H2 D (.lst [])) (upd H4 t (.tup [.str ("finish" : Str)]))) (acc.set (n - 1) (.ref t)) ((ps.map plD).set (n - 1) (plD .fin)) := all_set (n - 1) (dpAll_same (nw_same s5) _ _ a4) f5
          rw [← List.map_set] at a5
          have a6 := dpAll_same ((nw_right (But.upd D (upd H4 t (.tup [.str ("finish" : Str)])) (.lst (acc.set (n - 1) (.ref t)))) eDn).trans (nw_left (H := H) kD)) _ _ a5
          refine ⟨_, rfl, k D (ps.set (n - 1) .fin) _ ⟨by rw [List.length_set]; omega, by rw [List.length_set]; omega, fun p hp => ?_⟩ ?_ ((st4.same s5).upd hDs) (.lst (.inl (.inl (by rw [nw_at hDH, upd_same]))) a6)⟩
          · rw [List.length_set, hl]
            rcases List.mem_or_eq_of_mem_set hp with hp | hp
            · exact hw p hp
            · rw [hp]
              exact wf_fin n
          · intro b o nb e
            rw [upd_ne (ne_of_none e hDH)]
            exact s5 b o (b04 b o nb e)
        · refine ⟨_, rfl, k D ps H4 ⟨by omega, by omega, fun p hp => by rw [hl]; exact hw p hp⟩ b04 st4 (.lst (.inl (.inl (by rw [nw_at hDH]; exact eD4))) (dpAll_same (nw_left kD) _ _ a4))⟩
end
end K20

/-! K20Repr: the data's size, depth and form; the addresses of the runs found. -/
namespace K20
open PySem PySem.Spec PyProof.Rows L2

section
variable {α : Type} {f : α → PyData}
theorem short_all {B : Nat} : ∀ {l : List α}, (∀ a ∈ l, PyData.leavesShort B (f a) = true) → PyData.leavesShortAll B (l.map f) = true
  | [], _ => rfl
  | a :: l, h => by
    show (PyData.leavesShort B (f a) && PyData.leavesShortAll B (l.map f)) = true
    rw [h a List.mem_cons_self, short_all fun b hb => h b (List.mem_cons_of_mem _ hb)]
    rfl
theorem show_all : ∀ {l : List α}, (∀ a ∈ l, PyData.showable (f a) = true) → PyData.showableAll (l.map f) = true
  | [], _ => rfl
  | a :: l, h => by
    show (PyData.showable (f a) && PyData.showableAll (l.map f)) = true
    rw [h a List.mem_cons_self, show_all fun b hb => h b (List.mem_cons_of_mem _ hb)]
    rfl
theorem nodict_all : ∀ {l : List α}, (∀ a ∈ l, PyData.hasDict (f a) = false) → PyData.hasDictAll (l.map f) = false
  | [], _ => rfl
  | a :: l, h => by
    show (PyData.hasDict (f a) || PyData.hasDictAll (l.map f)) = false
    rw [h a List.mem_cons_self, nodict_all fun b hb => h b (List.mem_cons_of_mem _ hb)]
    rfl
theorem lay_all : ∀ {l : List α}, (∀ a ∈ l, PyData.canLay0 (f a) = true) → PyData.canLayAll0 (l.map f) = true
  | [], _ => rfl
  | a :: l, h => by
    show (PyData.canLay0 (f a) && PyData.canLayAll0 (l.map f)) = true
    rw [h a List.mem_cons_self, lay_all fun b hb => h b (List.mem_cons_of_mem _ hb)]
    rfl
theorem deep_all {m : Nat} : ∀ {l : List α}, (∀ a ∈ l, PyData.depth (f a) ≤ m) → PyData.depthAll (l.map f) ≤ m
  | [], _ => Nat.zero_le _
  | a :: l, h => by
    show max (PyData.depth (f a)) (PyData.depthAll (l.map f)) ≤ m
    exact Nat.max_le.mpr ⟨h a List.mem_cons_self, deep_all fun b hb => h b (List.mem_cons_of_mem _ hb)⟩
theorem bulk_all {m : Nat} : ∀ {l : List α}, (∀ a ∈ l, PyData.bulk (f a) ≤ m) → PyData.bulkAll (l.map f) ≤ l.length * (m + 1)
  | [], _ => Nat.zero_le _
  | a :: l, h => by
    show PyData.bulk (f a) + 1 + PyData.bulkAll (l.map f) ≤ _
    have h1 := h a List.mem_cons_self
    have h2 := bulk_all fun b hb => h b (List.mem_cons_of_mem a hb)
    rw [List.length_cons, Nat.add_mul, Nat.one_mul]
    omega
end
theorem short_int {i : Int} (h : i.natAbs ≤ 999999999999) : PyData.leavesShort 13 (.int i) = true := decide_eq_true (PyData.shown_int_le2 (by omega) (by omega))
theorem show_int {i : Int} (h : i.natAbs ≤ 999999999999) : PyData.showable (.int i) = true := by
  refine decide_eq_true ?_
  by_cases e : i.natAbs = 0
  · rw [e]
    decide
  · refine (Nat.log2_lt e).mpr (Nat.lt_of_le_of_lt h ?_)
    exact Nat.lt_of_lt_of_le (by decide : 999999999999 < 2 ^ 40) (Nat.pow_le_pow_right (by decide) (by decide))
theorem and4 {a b c d : Bool} (h1 : a = true) (h2 : b = true) (h3 : c = true) (h4 : d = true) : (a && (b && (c && d))) = true := by
  rw [h1, h2, h3, h4]
  rfl
theorem and3 {a b c : Bool} (h1 : a = true) (h2 : b = true) (h3 : c = true) : (a && (b && c)) = true := by
  rw [h1, h2, h3]
  rfl
theorem num_small {q : Rat} (h : Wd M0 4 q) : q.num.natAbs ≤ 999999999999 ∧ ((q.den : Int)).natAbs ≤ 999999999999 := by
  have h1 := h.num M0_ne
  have h2 : 4 * M0 ≤ 999999999999 := by decide
  have h3 : M0 ≤ 999999999999 := by decide
  rw [Int.natAbs_natCast]
  omega
theorem nu_short {q : Rat} (h : Wd M0 4 q) : PyData.leavesShort 13 (nuD q) = true := and3 (short_int (num_small h).1) (short_int (num_small h).2) rfl
theorem nu_show {q : Rat} (h : Wd M0 4 q) : PyData.showable (nuD q) = true := and3 (show_int (num_small h).1) (show_int (num_small h).2) rfl
theorem nat_small {n x : Nat} (h : x < n) (hn : n ≤ 10) : ((x : Int)).natAbs ≤ 999999999999 := by
  rw [Int.natAbs_natCast]
  omega
theorem pl_all {n : Nat} (hn : n ≤ 10) {p : Pl} (h : WfP n p) : PyData.leavesShort 13 (plD p) = true ∧ PyData.showable (plD p) = true ∧ PyData.hasDict (plD p) = false ∧ PyData.depth (plD p) ≤ 4 ∧ PyData.bulk (plD p) ≤ 40 := by
  cases p with
  | draw bs =>
    obtain ⟨h1, h2, h3, h4⟩ := h.drw bs rfl
    have hb : ∀ b ∈ bs, Wd M0 4 b.1 := fun b hb => (h3 b hb).2.mono (Nat.dvd_refl _) (by decide)
    have g1 : PyData.leavesShortAll 13 (bs.map brD) = true := short_all (f := brD) fun b m => and3 (nu_short (hb b m)) (short_int (nat_small (h3 b m).1 hn)) rfl
    have g2 : PyData.showableAll (bs.map brD) = true := show_all (f := brD) fun b m => and3 (nu_show (hb b m)) (show_int (nat_small (h3 b m).1 hn)) rfl
    refine ⟨?_, ?_, ?_, ?_, ?_⟩
    · show (PyData.leavesShort 13 (.str "draw") && (PyData.leavesShortAll 13 (bs.map brD) && true)) = true
      exact and3 (by decide) g1 rfl
    · show (PyData.showable (.str "draw") && (PyData.showableAll (bs.map brD) && true)) = true
      exact and3 rfl g2 rfl
    · show (false || (PyData.hasDictAll (bs.map brD) || false)) = false
      rw [nodict_all fun b m => rfl]
      rfl
    · show max 0 (max (PyData.depthAll (bs.map brD) + 1) 0) + 1 ≤ 4
      have := deep_all (f := brD) (l := bs) (m := 2) fun b m => Nat.le_refl 2
      omega
    · show 4 + 1 + (PyData.bulkAll (bs.map brD) + 1 + 0) ≤ 40
      have := bulk_all (f := brD) (l := bs) (m := 4) fun b m => Nat.le_refl 4
      omega
  | rew q x =>
    obtain ⟨h1, h2⟩ := h.rwd q x rfl
    refine ⟨?_, ?_, rfl, (by decide : 2 ≤ 4), (by decide : 6 + 1 + (2 + 1 + (0 + 1 + 0)) ≤ 40)⟩
    · show (PyData.leavesShort 13 (.str "reward") && (PyData.leavesShort 13 (nuD q) && (PyData.leavesShort 13 (.int (x : Int)) && true))) = true
      exact and4 (by decide) (nu_short h2) (short_int (nat_small h1 hn)) rfl
    · show (PyData.showable (.str "reward") && (PyData.showable (nuD q) && (PyData.showable (.int (x : Int)) && true))) = true
      exact and4 rfl (nu_show h2) (show_int (nat_small h1 hn)) rfl
  | fin => exact ⟨by decide, rfl, rfl, (by decide : 1 ≤ 4), (by decide : 6 + 1 + 0 ≤ 40)⟩
  | lose => exact ⟨by decide, rfl, rfl, (by decide : 1 ≤ 4), (by decide : 4 + 1 + 0 ≤ 40)⟩
theorem ch_all {ps : List Pl} (h : Wf ps) : (chD ps).showable = true ∧ (chD ps).hasDict = false ∧ (chD ps).depth ≤ 60 ∧ (chD ps).shown.length ≤ sizeLine := by
  have hn := h.2.1
  refine ⟨show_all fun p m => (pl_all hn (h.2.2 p m)).2.1, nodict_all fun p m => (pl_all hn (h.2.2 p m)).2.2.1, ?_, ?_⟩
  · show PyData.depthAll (ps.map plD) + 1 ≤ 60
    have := deep_all (f := plD) (l := ps) (m := 4) fun p m => (pl_all hn (h.2.2 p m)).2.2.2.1
    omega
  · refine PyData.shown_fits_bulk (B := 13) (by decide) (by decide) (d := chD ps) (short_all fun p m => (pl_all hn (h.2.2 p m)).1) ?_
    show PyData.bulkAll (ps.map plD) ≤ 2 ^ 20
    have := bulk_all (f := plD) (l := ps) (m := 40) fun p m => (pl_all hn (h.2.2 p m)).2.2.2.2
    have e : (2 : Nat) ^ 20 = 1048576 := by decide
    omega

/-! ### runs with their chances, as data -/
def pairD (rc : Run) : PyData := .tuple [runD rc.1, nuD rc.2]
theorem run_lay (r : List Nat) : (runD r).canLay0 = true := lay_all (f := fun n : Nat => PyData.int (n : Int)) fun a _ => rfl
theorem run_deep (r : List Nat) : (runD r).depth ≤ 1 := by
  show PyData.depthAll (r.map fun n : Nat => PyData.int (n : Int)) + 1 ≤ 1
  have := deep_all (f := fun n : Nat => PyData.int (n : Int)) (l := r) (m := 0) fun a _ => Nat.le_refl 0
  omega
theorem pair_lay (rc : Run) : (pairD rc).canLay0 = true := and3 (run_lay rc.1) rfl rfl
theorem pair_deep (rc : Run) : (pairD rc).depth ≤ 3 := by
  show max (runD rc.1).depth (max (nuD rc.2).depth 0) + 1 ≤ 3
  have h1 := run_deep rc.1
  have h2 : (nuD rc.2).depth = 1 := rfl
  omega
theorem shaped_of {d : PyData} (h : d.canLay0 = true) (k : d.depth ≤ 64) : SeqAt.shaped d = true := by
  show (d.canLay0 && decide (d.depth ≤ 64)) = true
  rw [h, decide_eq_true k]
  rfl
theorem pairs_shaped (l : List Run) : SeqAt.shaped (.list (l.map pairD)) = true := by
  refine shaped_of (lay_all fun a _ => pair_lay a) ?_
  show PyData.depthAll (l.map pairD) + 1 ≤ 64
  have := deep_all (f := pairD) (l := l) (m := 3) fun a _ => pair_deep a
  omega
theorem nus_shaped (l : List Rat) : SeqAt.shaped (.list (l.map nuD)) = true := by
  refine shaped_of (lay_all fun a _ => rfl) ?_
  show PyData.depthAll (l.map nuD) + 1 ≤ 64
  have := deep_all (f := nuD) (l := l) (m := 1) fun a _ => Nat.le_refl 1
  omega
theorem eqv_shaped {d : PyData} (h : SeqAt.shaped d = true) : PyData.eqv d d = true := SeqAt.eqv_refl d (SeqAt.canLay_of_shaped h)
theorem runX_dp {K : PySem.W.Frag} {Z : Addr → Prop} {H : Hp} {v : V} {rc : Run} (h : RunX K Z H v rc) : Dp K H v (pairD rc) := by
  obtain ⟨t, a, cv, rfl, h1, h2, _, h4⟩ := h
  exact .tup h1 (.cons (.lst (.inl (.inl h2)) (dp_nats K H rc.1)) (.cons (nu_dp h4) .nil))

/-! ### a heap without one address -/
def wo (D : Addr) (H : Hp) : Hp := fun b => if b = D then none else H b
theorem wo_ne {D b : Addr} {H : Hp} (h : b ≠ D) : wo D H b = H b := if_neg h
theorem wo_sub (D : Addr) (H : Hp) : Same (wo D H) H := fun b o e => by
  by_cases h : b = D
  · rw [h] at e
    unfold wo at e
    rw [if_pos rfl] at e
    cases e
  · rwa [wo_ne h] at e
theorem wo_but {D : Addr} {H H' : Hp} (b : But D H H') : Same (wo D H) (wo D H') := fun c o e => by
  by_cases h : c = D
  · rw [h] at e
    unfold wo at e
    rw [if_pos rfl] at e
    cases e
  · rw [wo_ne h] at e ⊢
    exact b c o h e

/-! ### the addresses of the runs found -/
structure Row (K : PySem.W.Frag) (Z : Addr → Prop) (H : Hp) (x : Addr × Addr × V) (rc : Run) : Prop where
  tup : SqT K H x.1 [.ref x.2.1, x.2.2]
  run : H x.2.1 = some (.lst (rc.1.map natV))
  z : Z x.2.1
  nu : Nu K H x.2.2 rc.2
theorem Row.same {K : PySem.W.Frag} {Z : Addr → Prop} {H H' : Hp} {x : Addr × Addr × V} {rc : Run} (h : Row K Z H x rc) (e : Same H H') : Row K Z H' x rc := ⟨Same.seqT e h.tup, e _ _ h.run, h.z, h.nu.same e⟩
theorem rows_of {K : PySem.W.Frag} {Z : Addr → Prop} {H : Hp} : ∀ {vs : List V} {l : List Run}, All2 (RunX K Z H) vs l → ∃ ts : List (Addr × Addr × V), vs = ts.map (fun t => V.ref t.1) ∧ ts.length = l.length ∧ ∀ (i : Nat) (t : Addr × Addr × V) (rc : Run), ts[i]? = some t → l[i]? = some rc → Row K Z H t rc
  | [], [], _ => ⟨[], rfl, rfl, fun i t rc e _ => by simp at e⟩
  | [], rc :: l, h => by cases h.1
  | v :: vs, [], h => by cases h.1
  | v :: vs, rc :: l, h => by
    obtain ⟨t, a, cv, rfl, h1, h2, h3, h4⟩ := h.2 0 v rc rfl rfl
    obtain ⟨ts, e1, e2, e3⟩ := rows_of (vs := vs) (l := l) ⟨Nat.succ.inj h.1, fun i x b p q => h.2 (i + 1) x b p q⟩
    refine ⟨(t, a, cv) :: ts, by rw [e1]; rfl, by rw [List.length_cons, List.length_cons, e2], fun i x y p q => ?_⟩
    cases i with
    | zero =>
      have p' : (t, a, cv) = x := Option.some.inj p
      have q' : rc = y := Option.some.inj q
      rw [← p', ← q']
      exact ⟨h1, h2, h3, h4⟩
    | succ i => exact e3 i x y p q
theorem natV_inj {a b : List Nat} (h : a.map natV = b.map natV) : a = b := by
  induction a generalizing b with
  | nil =>
    cases b with
    | nil => rfl
    | cons y b => cases h
  | cons x a ih =>
    cases b with
    | nil => cases h
    | cons y b =>
      obtain ⟨h1, h2⟩ := List.cons.inj h
      have := V.int.inj h1
      rw [ih h2, show x = y by omega]
/-- the runs' lists stand apart, as the runs are different -/
theorem rows_nd {K : PySem.W.Frag} {Z : Addr → Prop} {H : Hp} {ts : List (Addr × Addr × V)} {l : List Run} (hl : ts.length = l.length) (h : ∀ (i : Nat) (t : Addr × Addr × V) (rc : Run), ts[i]? = some t → l[i]? = some rc → Row K Z H t rc) (nd : (l.map (·.1)).Nodup) {i j : Nat} {t u : Addr × Addr × V}
    (hi : ts[i]? = some t) (hj : ts[j]? = some u) (e : t.2.1 = u.2.1) : i = j := by
  have hil : i < l.length := by rw [← hl]; exact (List.getElem?_eq_some_iff.mp hi).1
  have hjl : j < l.length := by rw [← hl]; exact (List.getElem?_eq_some_iff.mp hj).1
  have r1 := (h i t _ hi (List.getElem?_eq_getElem hil)).run
  have r2 := (h j u _ hj (List.getElem?_eq_getElem hjl)).run
  rw [e, r2] at r1
  have e2 : (l[j]).1.map natV = (l[i]).1.map natV := HO.lst.inj (Option.some.inj r1)
  have e3 := natV_inj e2
  refine (List.getElem_inj (h₀ := by rw [List.length_map]; exact hil) (h₁ := by rw [List.length_map]; exact hjl) nd).mp ?_
  rw [List.getElem_map, List.getElem_map, e3]
theorem sm_take {l : List Run} {i : Nat} {rc : Run} (h : l[i]? = some rc) : sm (l.take (i + 1)) (·.2) = sm (l.take i) (·.2) + rc.2 := by
  rw [List.take_add_one, h, sm_append]
  show _ + (rc.2 + 0) = _
  rw [Rat.add_zero]
theorem rops_take {l : List Run} {i : Nat} {rc : Run} (h : l[i]? = some rc) : rops (l.take (i + 1)) = rops (l.take i) ++ [(rc.2, lastN rc.1)] := by
  unfold rops
  rw [List.take_add_one, h, List.map_append]
  rfl
theorem sm_wd {D C : Nat} (hD : D ≠ 0) {l : List Run} (h : ∀ rc ∈ l, Wd D C rc.2) : Wd D (l.length * C) (sm l (·.2)) := by
  induction l with
  | nil =>
    rw [List.length_nil, Nat.zero_mul]
    exact Wd.zero D
  | cons a l ih =>
    have h3 := Wd.add hD (h a List.mem_cons_self) (ih fun b hb => h b (List.mem_cons_of_mem _ hb))
    refine h3.mono (Nat.dvd_refl _) ?_
    rw [List.length_cons, Nat.add_mul, Nat.one_mul]
    omega
theorem big_lit {a k : Nat} (h : a ≤ 10 ^ k) (hk : k ≤ 6) : a * 6 ^ k ≤ 2 ^ 100 := by
  have h1 : 10 ^ k ≤ 10 ^ 6 := Nat.pow_le_pow_right (by decide) hk
  have h2 : 6 ^ k ≤ 6 ^ 6 := Nat.pow_le_pow_right (by decide) hk
  have h3 : a * 6 ^ k ≤ 10 ^ 6 * 6 ^ 6 := Nat.mul_le_mul (Nat.le_trans h h1) h2
  exact Nat.le_trans h3 (by decide)
theorem tot_lit {ps : List Pl} (h : Wf ps) {x : Nat} (hx : x < ps.length) {k : Nat} (hk : k ≤ 6) (i : Nat) : Lit (sm ((rn ps x k).take i) (·.2)) := by
  refine Wd.lit6 hk (big_lit ?_ hk) (sm_wd (M0_pow k) fun rc hm => rn_wd h hx k rc (List.mem_of_mem_take hm))
  rw [List.length_take]
  exact Nat.le_trans (Nat.min_le_right _ _) (rn_len h x k)
theorem mas_lit {ps : List Pl} (h : Wf ps) {x : Nat} (hx : x < ps.length) {k : Nat} (hk : k ≤ 6) (i y : Nat) : Lit ((acc (nil_ ps.length) (rops ((rn ps x k).take i))).getD y 0) := by
  have h0 : ∀ z ∈ nil_ ps.length, Wd (M0 ^ k) 0 z := fun z hz => by
    rw [List.eq_of_mem_replicate hz]
    exact Wd.zero _
  have ho : ∀ o ∈ rops ((rn ps x k).take i), Wd (M0 ^ k) (6 ^ k) o.1 := fun o hm => by
    obtain ⟨rc, hr, rfl⟩ := List.mem_map.mp hm
    exact rn_wd h hx k rc (List.mem_of_mem_take hr)
  have h1 := acc_wd (M0_pow k) ho h0
  have hl : (rops ((rn ps x k).take i)).length ≤ 10 ^ k := by
    unfold rops
    rw [List.length_map, List.length_take]
    exact Nat.le_trans (Nat.min_le_right _ _) (rn_len h x k)
  rw [List.getD_eq_getElem?_getD]
  cases e : (acc (nil_ ps.length) (rops ((rn ps x k).take i)))[y]? with
  | none => exact ⟨by decide, by decide⟩
  | some z => exact Wd.lit6 hk (by rw [Nat.zero_add]; exact big_lit hl hk) (h1 z (List.mem_of_getElem? e))
end K20

/-! K20Law: the law's body, run where nothing is being shown. -/
namespace K20
open PySem PySem.Spec PyProof.Rows L2

abbrev nLaw : List Str := ["_law_script", "_law_stream", "_law_chain", "_law_place_here", "_law_steps", "_law_kept", "_law_run", "_law_due", "_law_found", "_law_masses", "_law_total", "_law_chance_here", "_law_last", "_law_other"]
theorem scLaw : FnScope nLaw ["_law_script"] (defScope sLaw) := ⟨rfl, rfl, rfl, by decide +kernel, rfl, by decide +kernel, by decide +kernel⟩
def spLaw (K : PySem.W.Frag) : Sp := fun vs H Q _ => ∃ (a : Addr) (ns : List Int), vs = [.ref a] ∧ SqL K H a (ns.map V.int) ∧ ∀ H', Q (.bl true) H'
/-- two by place and one by name -/
def two1 {α : Type} (us ws : List α) : List α :=
  match us, ws with
  | [c, p], [s] => [c, p, s]
  | _, _ => []
theorem two1_rel {vs : List V} {us : List Value} {zs : List V} {ws : List Value} (r : Vals vs us) (rz : Vals zs ws) : Vals (two1 vs zs) (two1 us ws) := by
  cases r with
  | nil => exact .nil
  | cons a r => cases r with
    | nil => exact .nil
    | cons b r => cases r with
      | cons _ _ => exact .nil
      | nil => cases rz with
        | nil => exact .nil
        | cons c rz => cases rz with
          | nil => exact .cons a (.cons b (.cons c .nil))
          | cons _ _ => exact .nil
theorem two1_is {α : Type} {us ws : List α} (h : (two1 us ws).length = 3) : ∃ c p s, us = [c, p] ∧ ws = [s] := by
  unfold two1 at h
  split at h
  · exact ⟨_, _, _, rfl, rfl⟩
  · cases h

/-- all but the masses' list and the first i runs' lists is as it was -/
def Kx (ts : List (Addr × Addr × V)) (M : Addr) (H0 : Hp) (i : Nat) (H : Hp) : Prop := ∀ b o, b ≠ M → (∀ (j : Nat) (t : Addr × Addr × V), j < i → ts[j]? = some t → b ≠ t.2.1) → H0 b = some o → H b = some o
theorem Kx.same {ts : List (Addr × Addr × V)} {M : Addr} {H0 H H' : Hp} {i : Nat} (k : Kx ts M H0 i H) (s : Same H H') : Kx ts M H0 i H' := fun b o n1 n2 e => s b o (k b o n1 n2 e)
theorem Kx.setM {ts : List (Addr × Addr × V)} {M : Addr} {H0 H : Hp} {i : Nat} {o' : HO} (k : Kx ts M H0 i H) : Kx ts M H0 i (upd H M o') := fun b o n1 n2 e => by
  rw [upd_ne n1]
  exact k b o n1 n2 e
theorem Kx.step {ts : List (Addr × Addr × V)} {M : Addr} {H0 H : Hp} {i : Nat} {o' : HO} {t : Addr × Addr × V} (k : Kx ts M H0 i H) (ht : ts[i]? = some t) : Kx ts M H0 (i + 1) (upd H t.2.1 o') := fun b o n1 n2 e => by
  rw [upd_ne (n2 i t (Nat.lt_succ_self i) ht)]
  exact k b o n1 (fun j u hj hu => n2 j u (Nat.lt_succ_of_lt hj) hu) e
theorem Kx.tup {K : PySem.W.Frag} {ts : List (Addr × Addr × V)} {M : Addr} {H0 H : Hp} {i : Nat} (k : Kx ts M H0 i H) (hM : ∃ ls, H0 M = some (.lst ls)) (hr : ∀ (j : Nat) (t : Addr × Addr × V), ts[j]? = some t → ∃ ls, H0 t.2.1 = some (.lst ls)) {b : Addr} {l : List V} (h : SqT K H0 b l) : SqT K H b l := by
  obtain ⟨lm, eM⟩ := hM
  rcases h with (h | ⟨o, h⟩) | h
  · refine .inl (.inl (k b _ (ne_of h eM (by intro z; cases z)) (fun j t _ ht => ?_) h))
    obtain ⟨ls, e⟩ := hr j t ht
    exact ne_of h e (by intro z; cases z)
  · refine .inl (.inr ⟨o, k b _ (ne_of h eM (by intro z; cases z)) (fun j t _ ht => ?_) h⟩)
    obtain ⟨ls, e⟩ := hr j t ht
    exact ne_of h e (by intro z; cases z)
  · exact .inr h
theorem Kx.nu {K : PySem.W.Frag} {ts : List (Addr × Addr × V)} {M : Addr} {H0 H : Hp} {i : Nat} (k : Kx ts M H0 i H) (hM : ∃ ls, H0 M = some (.lst ls)) (hr : ∀ (j : Nat) (t : Addr × Addr × V), ts[j]? = some t → ∃ ls, H0 t.2.1 = some (.lst ls)) {v : V} {q : Rat} (h : Nu K H0 v q) : Nu K H v q := by
  obtain ⟨p, rfl, h⟩ := h
  exact ⟨p, rfl, k.tup hM hr h⟩

section
variable {P : Program} {w : World} {K : PySem.W.Frag} {mg : Str → Option Value} {base : Heap}
theorem law_body {f fM fR : Addr} {fdM fdR : FuncData} (T : Txt K mg)
    (cG : C8.Cal P w K mg base 4 "_law_game" (spGame K) []) (cD : C8.Cal P w K mg base 1 "_law_draw" (spDraw K) []) (cLR : C8.Cal P w K mg base 2 "_law_runs" (spLRuns K) []) (cLC : C8.Cal P w K mg base 4 "_law_chance" (spLChance K) [])
    (cIN : C8.Cal P w K mg base 2 "_law_is_number" (spIsNum K) []) (cLP : C8.Cal P w K mg base 2 "_law_plus" (spPlus K) [])
    (GR : FnOk P w K mg base CX0 4 fR fdR ["chain", "place", "steps"] (spRuns K)) (gR : mg "runs_of" = some (.ref fR)) (kpR : PySem.W.keepIn K (.ref fR) = true) (kbR : KBinds K fdR ["chain", "place", "steps"] ["steps"] two1 two1)
    (GM : FnOk P w K mg base CX0 3 fM fdM ["chain", "place", "steps"] (spMasses K)) (gM : mg "masses_after" = some (.ref fM)) (kpM : PySem.W.keepIn K (.ref fM) = true) (kbM : KBinds K fdM ["chain", "place", "steps"] ["steps"] two1 two1)
    (cdv : Value) (A : Around) (outer : List Env) (s : Shared) (H : Hp) (vs : List V) (Q : VK) (E : XK) (hgd : A.guards = some []) (hr : Room 4 (A.deeper (envOfC "law" (defScope sLaw) s.heap.objs.size f cdv))) (h : spLaw K vs H Q E) :
    ∃ t, PSs (cxOf CX0 P w K mg base nLaw "law" (defScope sLaw) f cdv A outer s H E).nox (defBody sLaw) t ∧ t { nx := fun _ H' => Q .non H', rt := Q } (start nLaw vs) H := by
  obtain ⟨a, ns, rfl, ha, q⟩ := h
  have nd := scLaw.nd
  have hr3 : Room 3 (A.deeper (envOfC "law" (defScope sLaw) s.heap.objs.size f cdv)) := hr.mono (by decide)
  have hgd2 : (A.deeper (envOfC "law" (defScope sLaw) s.heap.objs.size f cdv)).guards = some [] := hgd
  refine ⟨_, pss_cons (ps_set (i := 1) nd rfl (.inl rfl) (pe_lst (pa_cons (pe_callTy call_list_of (by rfl) T.list (by decide +kernel) (pa_cons (pv 0) pa_nil)) (pa_cons pe_int (pa_cons pe_int pa_nil)))))
    (pss_cons (ps_set (i := 2) nd rfl (.inr rfl) (C8.pe_c cG hr (by decide) (by rfl) (pa_cons (pv 1) (pa_cons pe_int (pa_cons (pe_lst (pa_cons pe_str (pa_cons pe_str (pa_cons pe_str (pa_cons pe_str (pa_cons pe_str (pa_cons pe_str pa_nil))))))) pa_nil)))))
    (pss_cons (ps_set (i := 3) nd rfl (.inl rfl) (C8.pe_c cD hr (by decide) (by rfl) (pa_cons (pv 1) (pa_cons (pe_callB call_len_seq (by rfl) T.len PySem.boot_len (pa_cons (pv 2) pa_nil)) pa_nil))))
    (pss_cons (ps_set (i := 4) nd rfl (.inl rfl) (C8.pe_c cD hr (by decide) (by rfl) (pa_cons (pv 1) (pa_cons pe_int pa_nil))))
    (C8.pss_cut (ps_if (pt_cmpR op_lt (pe_callB call_len_seq (by rfl) T.len PySem.boot_len (pa_cons (pv 2) pa_nil)) pe_int (nomark _)) (pss_one (ps_set (i := 4) nd rfl (.inl rfl) (C8.pe_c cD hr (by decide) (by rfl) (pa_cons (pv 1) (pa_cons pe_int pa_nil))))) pss_nil)
    (pss_cons (ps_set (i := 5) nd rfl (.inl rfl) (pe_callB (cr_repr hgd2 hr.units) (by rfl) T.repr (by decide +kernel) (pa_cons (pv 2) pa_nil)))
    (pss_cons (ps_setLc (i := 7) (own := [("_law_run", 6)]) (g := gName 6) (tt := tYes) (te := tTup (tCons (tVar 6) (tCons (tCall (spLChance K) [] C8.E0 (tCons (tVar 2) (tCons (tVar 6) tNil))) tNil))) rfl nd rfl rfl (sw_true rfl rfl rfl (by decide +kernel))
      (pi_list (C8.pe_c cLR hr (by decide) (by rfl) (pa_cons (pv 2) (pa_cons (pv 3) (pa_cons (pv 4) pa_nil))))) (blkOk_by (N := nLaw) (sc := defScope sLaw) (by decide +kernel))
      (fun _ _ _ _ _ => by exact pg_name (i := 6) nd rfl (.inl rfl)) (fun _ _ _ _ _ => pts_nil)
      (fun _ _ _ _ _ => by exact pe_tup (pa_cons (pv 6) (pa_cons (C8.pe_c cLC hr (by decide) (by rfl) (pa_cons (pv 2) (pa_cons (pv 6) pa_nil))) pa_nil))))
    (pss_cons (ps_set (i := 8) nd rfl (.inl rfl) (pe_callK GR hr (by rfl) gR kpR kbR pass0 (pa_cons (pv 2) (pa_cons (pv 3) pa_nil)) (pk_cons (pv 4) pk_nil)))
    (pss_cons (ps_if (PW.pt (pw_or (pt_not (pt_val (pe_callB call_isi (by rfl) T.isin (by decide +kernel) (pa_cons (pv 8) (pa_cons (pe_bltn (v := .ty "list") (by rfl) T.list (by decide +kernel) rfl) pa_nil)))))
      (pw_or (pt_cmpR (op_neD hr.units) (pv 8) (pv 7) (nomark _)) (pw_or1 (pt_cmpR op_ne (pe_callB (cr_repr hgd2 hr.units) (by rfl) T.repr (by decide +kernel) (pa_cons (pv 2) pa_nil)) (pv 5) (nomark _)))))) (pss_one (ps_ret pe_bl)) pss_nil)
    (pss_cons (ps_setLc (i := 9) (own := [("_law_other", 13)]) (g := gName 13) (tt := tYes) rfl nd rfl rfl (sw_true rfl rfl rfl (by decide +kernel)) (pi_list (pv 2)) (blkOk_by (N := nLaw) (sc := defScope sLaw) (by decide +kernel))
      (fun _ _ _ _ _ => by exact pg_name (i := 13) nd rfl (.inl rfl)) (fun _ _ _ _ _ => pts_nil) (fun _ _ _ _ _ => by exact pe_tup (pa_cons pe_int (pa_cons pe_int pa_nil))))
    (pss_cons (ps_set (i := 10) nd rfl (.inl rfl) (pe_tup (pa_cons pe_int (pa_cons pe_int pa_nil))))
    (pss_cons (ps_for PassesOwn.never rfl (pi_list (pv 8)) (pg_tup rfl (pgs_cons (pg_name (i := 6) nd rfl (.inl rfl)) (pgs_cons (pg_name (i := 11) nd rfl (.inl rfl)) pgs_nil)))
      (pss_cons (ps_if (PW.pt (pw_or (pt_not (pt_val (pe_callB call_isi (by rfl) T.isin (by decide +kernel) (pa_cons (pv 6) (pa_cons (pe_bltn (v := .ty "list") (by rfl) T.list (by decide +kernel) rfl) pa_nil)))))
        (pw_or1 (pt_not (pt_val (C8.pe_c cIN hr (by decide) (by rfl) (pa_cons (pv 11) pa_nil))))))) (pss_one (ps_ret pe_bl)) pss_nil)
      (pss_cons (ps_set (i := 12) nd rfl (.inl rfl) (pe_ix ix_list (pv 6) (pe_op op_sub (pe_callB call_len_seq (by rfl) T.len PySem.boot_len (pa_cons (pv 6) pa_nil)) pe_int) (fun _ _ => rfl)))
      (pss_cons (ps_asg (C8.pe_c cLP hr (by decide) (by rfl) (pa_cons (pe_ix ix_list (pv 9) (pv 12) (fun _ _ => rfl)) (pa_cons (pv 11) pa_nil))) (pg_sub (pv 9) (pv 12) set_list))
      (pss_cons (ps_set (i := 10) nd rfl (.inl rfl) (C8.pe_c cLP hr (by decide) (by rfl) (pa_cons (pv 10) (pa_cons (pv 11) pa_nil))))
      (pss_one (ps_expr (pe_bm PySem.F.plainAttrs_list PySem.F.slot_list_append PySem.F.type_list_append mt_append (pv 6) (pa_cons pe_int pa_nil)))))))))
    (pss_cons (ps_if (PW.pt (pw_or (pt_cmpR (op_neD hr.units) (pv 10) (pe_tup (pa_cons pe_int (pa_cons pe_int pa_nil))) (nomark _))
      (pw_or1 (pt_cmpR (op_neD hr.units) (pv 9) (pe_callK GM hr3 (by rfl) gM kpM kbM pass0 (pa_cons (pv 2) (pa_cons (pv 3) pa_nil)) (pk_cons (pv 4) pk_nil)) (nomark _))))) (pss_one (ps_ret pe_bl)) pss_nil)
    (pss_one (ps_ret (pe_and (pe_cmpR (op_eqD hr.units) (pe_callK GR hr (by rfl) gR kpR kbR pass0 (pa_cons (pv 2) (pa_cons (pv 3) pa_nil)) (pk_cons (pv 4) pk_nil)) (pv 7) (nomark _))
      (pe_one (pe_cmpR op_eq (pe_callB (cr_repr hgd2 hr.units) (by rfl) T.repr (by decide +kernel) (pa_cons (pv 2) pa_nil)) (pv 5) (nomark _)))))))))))))))))), ?_⟩
  -- stream = [list(script), 0, 0]
  refine ⟨_, rfl, a, _, rfl, .inl ha, fun c hc => ⟨(by show 3 ≤ sizeLine; decide), fun s0 hs0 => ?_⟩⟩
  have hcs : c ≠ s0 := fun z => by
    rw [← z, upd_same] at hs0
    cases hs0
  have strm : Strm K (upd (upd H c (.lst (ns.map V.int))) s0 (.lst [.ref c, .int 0, .int 0])) s0 c := ⟨⟨0, 0, upd_same⟩, hcs, ns, .inl (.inl (by rw [upd_ne hcs, upd_same]))⟩
  revert strm
  generalize upd (upd H c (.lst (ns.map V.int))) s0 (.lst [.ref c, .int 0, .int 0]) = H2
  intro strm
  -- chain = game(..)
  refine ⟨_, rfl, (by show 6 ≤ sizeLine; decide), fun kd hkd => ?_⟩
  have skd := same_upd (o := .lst kinds) hkd
  have hks : kd ≠ s0 := fun z => strm.at3.there (z ▸ hkd)
  refine ⟨s0, c, kd, rfl, strm.same skd, .inl (.inl upd_same), hks, fun g ps H4 hw b4 st4 hd4 => ?_⟩
  have strm3 := strm.same skd
  have b4' : But s0 (upd H2 kd (.lst kinds)) H4 := b4
  have hd4' : Dp K (nw (upd H2 kd (.lst kinds)) H4) (.ref g) (chD ps) := hd4
  clear b4 hd4
  revert strm3 b4' hd4'
  generalize upd H2 kd (.lst kinds) = H3
  intro strm3 b4 hd4
  have hs3 := strm3.at3.there
  obtain ⟨cs, hc4, hca4, hcl⟩ := dp_at (dp_same (nw_sub H3 H4) _ _ hd4)
  -- place, steps
  refine ⟨_, rfl, _, rfl, g, cs, rfl, .inl hc4, s0, c, cs.length, rfl, strm3.on b4 st4, by rw [hcl]; exact hw.1, by rw [hcl]; have := hw.2.1; omega, fun x H5 hx b5 st5 => ?_⟩
  rw [hcl] at hx
  have b35 := b4.trans b5
  refine ⟨_, rfl, s0, c, 5, rfl, strm3.on b35 st5, by decide, by decide, fun k1 H6 hk1 b6 st6 => ?_⟩
  have b36 := b35.trans b6
  have hd6 : Dp K (nw H3 H6) (.ref g) (chD ps) := dp_same (nw_right (b5.trans b6) hs3) _ _ hd4
  obtain ⟨cs6, hc6, hca6, hcl6⟩ := dp_at (dp_same (nw_sub H3 H6) _ _ hd6)
  refine ⟨fun σ H7 => ∃ k : Nat, k ≤ 6 ∧ σ = [some (.ref a), some (.ref s0), some (.ref g), some (natV x), some (natV k), none, none, none, none, none, none, none, none, none] ∧ Dp K H7 (.ref g) (chD ps), ?_, ?_⟩
  · refine ⟨_, rfl, g, cs6, rfl, .inl hc6, _, _, rfl, rfl, _, rfl, ?_⟩
    refine ite2 (fun _ => ?_) (fun _ => ⟨k1, by omega, rfl, dp_same (nw_sub H3 H6) _ _ hd6⟩)
    exact ⟨_, rfl, s0, c, 7, rfl, strm3.on b36 st6, by decide, by decide, fun k2 H7 hk2 b7 st7 => ⟨k2, by omega, rfl, dp_same ((nw_right b7 hs3).trans (nw_sub H3 H7)) _ _ hd6⟩⟩
  rintro σ H7 ⟨k, hk, rfl, hd7⟩
  obtain ⟨ch1, ch2, ch3, ch4⟩ := ch_all hw
  -- kept = repr(chain)
  refine ⟨_, rfl, g, chD ps, rfl, hd7, ch1, ch2, ch3, ch4, ?_⟩
  -- due = [..]
  refine ⟨_, rfl, _, rfl, _, rfl, g, ps, x, k, rfl, hd7, hw, hx, hk, fun r1 rxs H8 s8 hr1 er1 hrx => ⟨r1, rfl, ⟨rxs, .inl (.inl er1)⟩, fun D hD => ?_⟩⟩
  have hrxl : rxs.length = (rn ps x k).length := by
    rw [hrx.1]
    exact List.length_map _
  refine lc_list (K := K) (a := r1) (xs := rxs) (fun j H9 => Same H8 H9 ∧ ∃ acc, H9 D = some (.lst acc) ∧ DpAll K (wo D H9) acc (((rn ps x k).take j).map pairD)) ⟨same_upd hD, [], upd_same, .nil⟩ (fun j H9 _ z => z.1.seq (.inl (.inl er1))) ?_ ?_
  · rintro j v H9 hj ⟨s9, acc, eD, hacc⟩
    have hjl : j < (rn ps x k).length := by
      rw [← hrxl]
      exact (List.getElem?_eq_some_iff.mp hj).1
    have hmem : (rn ps x k)[j] ∈ rn ps x k := List.getElem_mem hjl
    obtain ⟨r, er, hr0⟩ := hrx.get hj
    have er' : r = ((rn ps x k)[j]).1 := by
      unfold rl at er
      rw [List.getElem?_map, List.getElem?_eq_getElem hjl] at er
      exact (Option.some.inj er).symm
    subst er'
    obtain ⟨ra, rfl, hra, _⟩ := hr0
    obtain ⟨hne, hall, hlast, hrl⟩ := rn_last hx k _ hmem
    have hraD : ra ≠ D := ne_of_none hra hD
    refine ⟨rfl, _, rfl, _, rfl, _, rfl, g, ra, ps, _, rfl, dp_same (s8.trans s9) _ _ hd7, hw, .inl (.inl (s9 _ _ hra)), hne, hall, by omega, fun u H10 s10 hu => ⟨(by show 2 ≤ sizeLine; decide), fun t ht => ?_⟩⟩
    have s11 := same_upd (o := .tup [.ref ra, u]) ht
    have s911 := s10.trans s11
    have eD11 := s911 _ _ eD
    have htD : t ≠ D := fun z => by
      rw [z, s10 _ _ eD] at ht
      cases ht
    have hal : acc.length < sizeLine := by
      rw [all_len hacc, List.length_map, List.length_take]
      exact big6 (Nat.le_trans (Nat.min_le_right _ _) (rn_len hw x k)) hk
    refine ⟨acc, eD11, hal, fun b o e => ?_, _, upd_same, ?_⟩
    · rw [upd_ne (ne_of_none e hD)]
      exact s911 b o (s9 b o e)
    · rw [List.take_add_one, List.getElem?_eq_getElem hjl, List.map_append]
      refine dpAll_same (wo_but (But.upd D _ _)) _ _ (all_app (dpAll_same (wo_but (But.of_same s911)) _ _ hacc) (.cons ?_ .nil))
      rw [← rn_chance hx k _ hmem] at hu
      have hu2 : Nu K (wo D (upd H10 t (.tup [.ref ra, u]))) u ((rn ps x k)[j]).2 := by
        obtain ⟨up, rfl, hup⟩ := hu
        refine ⟨up, rfl, ?_⟩
        rcases hup with (e | ⟨o, e⟩) | e
        · exact .inl (.inl (by rw [wo_ne (ne_of e (s10 _ _ eD) (by intro z; cases z))]; exact s11 _ _ e))
        · exact .inl (.inr ⟨o, by rw [wo_ne (ne_of e (s10 _ _ eD) (by intro z; cases z))]; exact s11 _ _ e⟩)
        · exact .inr e
      exact .tup (.inl (.inl (by rw [wo_ne htD, upd_same]))) (.cons (.lst (.inl (.inl (by rw [wo_ne hraD]; exact s911 _ _ (s9 _ _ hra)))) (dp_nats K _ _)) (.cons (nu_dp hu2) .nil))
  rintro H9 ⟨s9, acc9, eD9, hacc9⟩
  rw [hrxl, List.take_length] at hacc9
  have hdue9 : Dp K H9 (.ref D) (.list ((rn ps x k).map pairD)) := .lst (.inl (.inl eD9)) (dpAll_same (wo_sub D H9) _ _ hacc9)
  have hd9 : Dp K H9 (.ref g) (chD ps) := dp_same (s8.trans s9) _ _ hd7
  -- found = runs_of(..)
  refine ⟨_, rfl, _, rfl, _, rfl, g, ps, x, k, rfl, hd9, hw, hx, hk, fun p xs H10 s10 hp ep hxs => ?_⟩
  have hfd : Dp K H10 (.ref p) (.list ((rn ps x k).map pairD)) := .lst (.inl (.inl ep)) (all2_dp hxs fun v rc z => runX_dp z)
  have hd10 : Dp K H10 (.ref g) (chD ps) := dp_same s10 _ _ hd9
  have hdue10 := dp_same s10 _ _ hdue9
  refine ⟨_, rfl, _, _, _, _, true, rfl, .ty "list", .base (.lst ep), kit_ty (by decide +kernel), _, rfl, ?_⟩
  refine iteF ?_
  refine ⟨_, rfl, _, rfl, _, _, hfd, hdue10, pairs_shaped _, pairs_shaped _, _, rfl, ?_⟩
  rw [eqv_shaped (pairs_shaped (rn ps x k))]
  refine iteF ?_
  refine ⟨_, rfl, g, chD ps, rfl, hd10, ch1, ch2, ch3, ch4, _, rfl, rfl, _, rfl, ?_⟩
  refine iteNS rfl ?_
  -- masses = [(0, 1) for other in chain]
  obtain ⟨cs10, hc10, hca10, hcl10⟩ := dp_at hd10
  refine ⟨_, rfl, g, rfl, ⟨cs10, hc10⟩, fun M hM => ?_⟩
  refine lc_list (K := K) (a := g) (xs := cs10) (fun j H11 => Same H10 H11 ∧ ∃ ms, H11 M = some (.lst ms) ∧ DpAll K H11 ms ((nil_ j).map nuD)) ⟨same_upd hM, [], upd_same, .nil⟩ (fun j H11 _ z => z.1.seq hc10) ?_ ?_
  · rintro j v H11 hj ⟨s11, mls, eM, hms⟩
    have hjl : j < ps.length := by
      rw [← hcl10]
      exact (List.getElem?_eq_some_iff.mp hj).1
    refine ⟨rfl, (by show 2 ≤ sizeLine; decide), fun t ht => ?_⟩
    have s12 := same_upd (o := .tup [.int 0, .int 1]) ht
    have eM12 := s12 _ _ eM
    have hml : mls.length = j := by
      rw [all_len hms, List.length_map]
      exact List.length_replicate
    have hn10 := hw.2.1
    refine ⟨mls, eM12, small1000 (by omega), fun b o e => ?_, _, upd_same, ?_⟩
    · rw [upd_ne (ne_of_none e hM)]
      exact s12 b o (s11 b o e)
    · have n0 : Nu K (upd H11 t (.tup [.int 0, .int 1])) (.ref t) 0 := ⟨t, rfl, .inl (.inl upd_same)⟩
      have e0 : nil_ (j + 1) = nil_ j ++ [0] := List.replicate_succ'
      have a2 := all_app (dpAll_same s12 _ _ hms) (.cons (nu_dp n0) .nil)
      have e1 : (nil_ j).map nuD ++ [nuD 0] = (nil_ (j + 1)).map nuD := by rw [e0, List.map_append]; rfl
      rw [e1] at a2
      exact but_nus (But.upd M _ _) eM12 a2
  rintro H11 ⟨s11, mls0, eM11, hms11⟩
  rw [hcl10] at hms11
  -- total = (0, 1)
  refine ⟨(by show 2 ≤ sizeLine; decide), fun t0 ht0 => ?_⟩
  have s12 := same_upd (o := .tup [.int 0, .int 1]) ht0
  have n12 : Nu K (upd H11 t0 (.tup [.int 0, .int 1])) (.ref t0) 0 := ⟨t0, rfl, .inl (.inl upd_same)⟩
  have s1012 := s11.trans s12
  have eM12 := s12 _ _ eM11
  have hms12 := dpAll_same s12 _ _ hms11
  revert n12 s1012 eM12 hms12
  generalize upd H11 t0 (.tup [.int 0, .int 1]) = H12
  intro n12 s1012 eM12 hms12
  obtain ⟨ts, ets, tsl, rows10⟩ := rows_of hxs
  have rows : ∀ (i : Nat) (t : Addr × Addr × V) (rc : Run), ts[i]? = some t → (rn ps x k)[i]? = some rc → Row K (fun a => H9 a = none) H12 t rc := fun i t rc e1 e2 => (rows10 i t rc e1 e2).same s1012
  have ep12 := s1012 _ _ ep
  have hMx : ∃ ls, H12 M = some (.lst ls) := ⟨_, eM12⟩
  have rowAt : ∀ {j : Nat} {t : Addr × Addr × V}, ts[j]? = some t → ∃ rc, (rn ps x k)[j]? = some rc ∧ Row K (fun a => H9 a = none) H12 t rc := fun {j t} e => by
    have hj : j < (rn ps x k).length := by
      rw [← tsl]
      exact (List.getElem?_eq_some_iff.mp e).1
    exact ⟨_, List.getElem?_eq_getElem hj, rows j t _ e (List.getElem?_eq_getElem hj)⟩
  have hrx12 : ∀ (j : Nat) (t : Addr × Addr × V), ts[j]? = some t → ∃ ls, H12 t.2.1 = some (.lst ls) := fun j t e => by
    obtain ⟨rc, _, R⟩ := rowAt e
    exact ⟨_, R.run⟩
  have hMH9 : H9 M = none := s10.free hM
  have hpM : p ≠ M := ne_of_none ep hM
  have hp_run : ∀ (j : Nat) (t : Addr × Addr × V), ts[j]? = some t → p ≠ t.2.1 := fun j t e z => by
    obtain ⟨rc, _, R⟩ := rowAt e
    have e1 := R.run
    rw [← z, ep12] at e1
    have e2 : xs = rc.1.map natV := HO.lst.inj (Option.some.inj e1)
    have e3 : xs[j]? = some (.ref t.1) := by
      rw [ets, List.getElem?_map, e]
      rfl
    rw [e2, List.getElem?_map] at e3
    obtain ⟨n, _, en⟩ := Option.map_eq_some_iff.mp e3
    cases en
  -- from H9 everything stays
  have stay : ∀ {i : Nat} {H' : Hp}, Kx ts M H12 i H' → Same H9 H' := fun {i H'} kx b o e => by
    refine kx b o (ne_of_none e hMH9) (fun j t _ et => ?_) (s1012 _ _ (s10 _ _ e))
    obtain ⟨rc, _, R⟩ := rowAt et
    exact ne_of_none e R.z
  refine ⟨_, rfl, p, rfl, ⟨xs, .inl (.inl ep12)⟩, for_list (K := K) (a := p) (xs := xs)
    (fun i σ H' => ∃ (mls : List V) (tv : V) (y6 y11 y12 : Option V), σ = [some (.ref a), some (.ref s0), some (.ref g), some (natV x), some (natV k), some (.str (chD ps).shown), y6, some (.ref D), some (.ref p), some (.ref M), some tv, y11, y12, none] ∧
      Kx ts M H12 i H' ∧ H' M = some (.lst mls) ∧ DpAll K H' mls ((acc (nil_ ps.length) (rops ((rn ps x k).take i))).map nuD) ∧ Nu K H' tv (sm ((rn ps x k).take i) (·.2)))
    ⟨mls0, .ref t0, none, none, none, rfl, fun b o _ _ e => e, eM12, hms12, n12⟩
    (fun i σ H' _ ⟨_, _, _, _, _, _, kx, _⟩ => .inl (.inl (kx p _ hpM (fun j t _ e => hp_run j t e) ep12))) ?_ ?_⟩
  · rintro i v σ H13 hi ⟨mls, tv, y6, y11, y12, rfl, kx, eM, hms, htv⟩
    have hil : i < ts.length := by
      have := (List.getElem?_eq_some_iff.mp hi).1
      rw [ets, List.length_map] at this
      exact this
    have eti := List.getElem?_eq_getElem hil
    obtain ⟨rc, erc, R⟩ := rowAt eti
    have hmem : rc ∈ rn ps x k := List.mem_of_getElem? erc
    have ev : v = .ref (ts[i]).1 := by
      rw [ets, List.getElem?_map, eti] at hi
      exact (Option.some.inj hi).symm
    subst ev
    obtain ⟨hne, hall, hlast, hrl⟩ := rn_last hx k rc hmem
    have hpos : 0 < rc.1.length := List.length_pos_iff.mpr hne
    have haM : (ts[i]).2.1 ≠ M := ne_of_none (rows10 i _ rc eti erc).run hM
    have ea : H13 (ts[i]).2.1 = some (.lst (rc.1.map natV)) := kx _ _ haM (fun j t hj ht z => by
      have := rows_nd tsl rows10 (rn_nd ps x k) eti ht z
      omega) R.run
    have hT : SqT K H13 (ts[i]).1 [.ref (ts[i]).2.1, (ts[i]).2.2] := kx.tup hMx hrx12 R.tup
    have hcv : Nu K H13 (ts[i]).2.2 rc.2 := kx.nu hMx hrx12 R.nu
    have hrl7 : rc.1.length ≤ 7 := by omega
    have lit := rn_lit hw hx hk hmem
    refine ⟨(ts[i]).1, _, rfl, hT, rfl, .ref (ts[i]).2.1, _, rfl, (ts[i]).2.2, [], rfl, rfl, ?_⟩
    -- if not isinstance(run, list) or not is_number(chance)
    refine ⟨_, rfl, _, _, _, _, true, rfl, .ty "list", .base (.lst ea), kit_ty (by decide +kernel), _, rfl, ?_⟩
    refine iteF ?_
    refine ⟨_, rfl, (ts[i]).2.2, rc.2, rfl, hcv, lit, fun H14 s14 => ⟨_, rfl, ?_⟩⟩
    refine iteF ?_
    have ea14 := s14 _ _ ea
    have eM14 := s14 _ _ eM
    have kx14 := kx.same s14
    have hms14 := dpAll_same s14 _ _ hms
    -- last = run[len(run) - 1]
    refine ⟨_, rfl, _, rfl, (ts[i]).2.1, _, rfl, .inl (.inl (.inl ea14)), _, _, rfl, rfl, (ts[i]).2.1, _, _, natV (lastN rc.1), rfl, rfl, .inl (.inl ea14), ?_, ?_⟩
    · have hml : (rc.1.map natV).length = rc.1.length := List.length_map _
      have e1 : ((rc.1.map natV).length : Int) - 1 = ((rc.1.length - 1 : Nat) : Int) := by omega
      rw [e1, ← lastN_getD hne]
      exact atI_nat (nat_get (by omega))
    have hal : (acc (nil_ ps.length) (rops ((rn ps x k).take i))).length = ps.length := by
      rw [acc_len]
      exact List.length_replicate
    have hmll : mls.length = ps.length := by rw [all_len hms, List.length_map, hal]
    obtain ⟨mv, hmv, hmvd⟩ := all_get (i := lastN rc.1) hms14 (by rw [List.getElem?_map, get_of_lt (by rw [hal]; exact hlast)]; rfl)
    -- masses[last] = plus(masses[last], chance)
    refine ⟨_, rfl, _, rfl, M, mls, (lastN rc.1 : Int), mv, rfl, rfl, .inl (.inl eM14), atI_nat hmv, ?_⟩
    refine ⟨_, rfl, mv, (ts[i]).2.2, _, _, rfl, dp_nu hmvd, hcv.same s14, mas_lit hw hx hk i _, lit, fun p1 h1 => ?_⟩
    have s15 := same_upd (o := .tup (nuL ((acc (nil_ ps.length) (rops ((rn ps x k).take i))).getD (lastN rc.1) 0 + rc.2))) h1
    have n15 : Nu K (upd H14 p1 (.tup (nuL ((acc (nil_ ps.length) (rops ((rn ps x k).take i))).getD (lastN rc.1) 0 + rc.2)))) (.ref p1) _ := Nu.new
    revert s15 n15
    generalize upd H14 p1 (.tup (nuL ((acc (nil_ ps.length) (rops ((rn ps x k).take i))).getD (lastN rc.1) 0 + rc.2))) = H15
    intro s15 n15
    have eM15 := s15 _ _ eM14
    refine ⟨_, rfl, _, rfl, M, mls, _, lastN rc.1, rfl, rfl, eM15, ixN_nat (by rw [hmll]; exact hlast), ?_⟩
    have bM := But.upd M H15 (.lst (mls.set (lastN rc.1) (.ref p1)))
    have hms16 := but_nus_set (i := lastN rc.1) bM eM15 (dpAll_same s15 _ _ hms14) n15
    have kx16 : Kx ts M H12 i (upd H15 M (.lst (mls.set (lastN rc.1) (.ref p1)))) := (kx14.same s15).setM
    have ea16 : (upd H15 M (.lst (mls.set (lastN rc.1) (.ref p1)))) (ts[i]).2.1 = some (.lst (rc.1.map natV)) := bM _ _ haM (s15 _ _ ea14)
    have hcv16 : Nu K (upd H15 M (.lst (mls.set (lastN rc.1) (.ref p1)))) (ts[i]).2.2 rc.2 := but_nu bM eM15 (hcv.same (s14.trans s15))
    have htv16 : Nu K (upd H15 M (.lst (mls.set (lastN rc.1) (.ref p1)))) tv (sm ((rn ps x k).take i) (·.2)) := but_nu bM eM15 (htv.same (s14.trans s15))
    have eM16 : (upd H15 M (.lst (mls.set (lastN rc.1) (.ref p1)))) M = some (.lst (mls.set (lastN rc.1) (.ref p1))) := upd_same
    revert hms16 kx16 ea16 hcv16 htv16 eM16
    generalize upd H15 M (.lst (mls.set (lastN rc.1) (.ref p1))) = H16
    intro hms16 kx16 ea16 hcv16 htv16 eM16
    -- total = plus(total, chance)
    refine ⟨_, rfl, _, rfl, tv, (ts[i]).2.2, _, _, rfl, htv16, hcv16, tot_lit hw hx hk i, lit, fun p2 h2 => ?_⟩
    have s17 := same_upd (o := .tup (nuL (sm ((rn ps x k).take i) (·.2) + rc.2))) h2
    have n17 : Nu K (upd H16 p2 (.tup (nuL (sm ((rn ps x k).take i) (·.2) + rc.2)))) (.ref p2) _ := Nu.new
    revert s17 n17
    generalize upd H16 p2 (.tup (nuL (sm ((rn ps x k).take i) (·.2) + rc.2))) = H17
    intro s17 n17
    have ea17 := s17 _ _ ea16
    -- run.append(0)
    have hml2 : (rc.1.map natV).length < sizeLine := by
      rw [List.length_map]
      exact small1000 (by omega)
    refine ⟨_, rfl, .inl ⟨rfl, _, .inl (.inl ea17)⟩, (ts[i]).2.1, _, .int 0, rfl, rfl, ea17, hml2, ?_⟩
    have bA := But.upd (ts[i]).2.1 H17 (.lst (rc.1.map natV ++ [.int 0]))
    refine ⟨_, .ref p2, _, _, _, rfl, (kx16.same s17).step eti, bA _ _ haM.symm (s17 _ _ eM16), ?_, ?_⟩
    · rw [rops_take erc, acc_snoc, List.map_set]
      have h17 := dpAll_same s17 _ _ hms16
      rw [← List.map_set] at h17 ⊢
      exact but_nus bA ea17 h17
    · rw [sm_take erc]
      exact but_nu bA ea17 n17
  · rintro σ H13 ⟨mls, tv, y6, y11, y12, rfl, kx, eM, hms, htv⟩
    have exl : xs.length = (rn ps x k).length := hxs.1
    rw [exl, List.take_length] at hms htv
    rw [law_masses hw hx k] at hms
    rw [rn_sum hw hx k] at htv
    have st9 := stay kx
    -- if total != (1, 1) or masses != masses_after(..)
    refine ⟨_, rfl, (by show 2 ≤ sizeLine; decide), fun t ht => ?_⟩
    have s14 := same_upd (o := .tup [.int 1, .int 1]) ht
    have n14 : Nu K (upd H13 t (.tup [.int 1, .int 1])) (.ref t) 1 := ⟨t, rfl, .inl (.inl upd_same)⟩
    have st14 := st9.trans s14
    have hms14 := dpAll_same s14 _ _ hms
    have eM14 := s14 _ _ eM
    have htv14 := htv.same s14
    revert n14 st14 hms14 eM14 htv14
    generalize upd H13 t (.tup [.int 1, .int 1]) = H14
    intro n14 st14 hms14 eM14 htv14
    refine ⟨nuD 1, nuD 1, nu_dp htv14, nu_dp n14, rfl, rfl, _, rfl, ?_⟩
    rw [SeqAt.eqv_refl (nuD 1) rfl]
    refine iteF ?_
    refine ⟨_, rfl, _, rfl, _, rfl, _, rfl, g, ps, x, k, rfl, dp_same st14 _ _ hd9, hw, hx, hk, fun v H15 s15 hv => ⟨.list ((ms ps x k).map nuD), .list ((ms ps x k).map nuD), .lst (.inl (.inl (s15 _ _ eM14))) (dpAll_same s15 _ _ hms14), hv, nus_shaped _, nus_shaped _, _, rfl, ?_⟩⟩
    rw [eqv_shaped (nus_shaped (ms ps x k))]
    refine iteF ?_
    -- return runs_of(..) == due and repr(chain) == kept
    have st15 := st14.trans s15
    refine ⟨_, rfl, _, rfl, _, rfl, g, ps, x, k, rfl, dp_same st15 _ _ hd9, hw, hx, hk, fun p2 xs2 H16 s16 hp2 ep2 hxs2 => ?_⟩
    have st16 := st15.trans s16
    refine ⟨_, rfl, .list ((rn ps x k).map pairD), .list ((rn ps x k).map pairD), .lst (.inl (.inl ep2)) (all2_dp hxs2 fun v rc z => runX_dp z), dp_same st16 _ _ hdue9, pairs_shaped _, pairs_shaped _, _, rfl, ?_⟩
    rw [eqv_shaped (pairs_shaped (rn ps x k))]
    refine iteT ?_
    refine ⟨_, rfl, g, chD ps, rfl, dp_same st16 _ _ hd9, ch1, ch2, ch3, ch4, _, rfl, rfl, ?_⟩
    rw [decide_eq_true rfl]
    exact q _
end
end K20

/-! K20End: the law's call at the top; what the top has written. -/
namespace K20
open PySem PySem.Spec PyProof.Rows L2

abbrev lawFn (kV doc pm : Value) (an : Option Addr) (cdv ct : Value) : FuncData := PySem.W.fnOf "law" "law" (defArgs sLaw) (defBody sLaw) (defScope sLaw) .none kV doc pm an cdv ct
/-- the law's function, and the promise of its body wherever nothing is being shown -/
def Ready (P : Program) (w : World) (K : PySem.W.Frag) (mg : Str → Option Value) (fa : Addr) : Prop :=
  ∃ (oc kV doc pm cdv ct : Value) (od an : Option Addr) (osl : Array (Option Value)), K.lookup fa = some ⟨oc, od, .func (lawFn kV doc pm an cdv ct), osl⟩ ∧ PySem.W.codeIn K cdv "law" = true ∧
    ∀ (base : Heap) (A : Around) (outer : List Env) (s : Shared) (H : Hp) (vs : List V) (Q : VK) (E : XK), A.guards = some [] → Room 4 (A.deeper (envOfC "law" (defScope sLaw) s.heap.objs.size fa cdv)) → spLaw K vs H Q E →
      ∃ t, PSs (cxOf CX0 P w K mg base nLaw "law" (defScope sLaw) fa cdv A outer s H E).nox (defBody sLaw) t ∧ t { nx := fun _ H' => Q .non H', rt := Q } (start nLaw vs) H

theorem tupK {K : PySem.W.Frag} {H : Hp} {a : Addr} {xs : List V} {od : Option Addr} {its : Array Value} {n : Nat} {sl : Array (Option Value)} (e : K.lookup a = some ⟨.type "tuple", od, .seq its n, sl⟩) (r : Vals xs its.toList) (hl : xs.length ≤ 2 := by decide) : SqT K H a xs := by
  refine .inr ⟨_, its, n, e, rfl, rfl, ?_, r⟩
  have e1 : xs.length = its.toList.length := r.length
  have e3 : its.toList.length = its.size := Array.length_toList
  have e2 : 2 ≤ sizeLine := by decide
  omega

section
variable {P : Program} {w : World} {K : PySem.W.Frag} {mg : Str → Option Value}
/-- the call, seen from the top: entered, bound, walked, left -/
theorem at_top {base : Heap} {fa a : Addr} {s : Shared} {H : Hp} {Q : VK} (R : Ready P w K mg fa) (top : Env0 P w K mg base callerA [] s H) (hsp : spLaw K [.ref a] H Q E0) :
    codeAny (model P w) callerA (.call (.ref fa) ⟨[.ref a], []⟩) (CR CX0 [] P w H s Q E0) s := by
  obtain ⟨oc, kV, doc, pm, cdv, ct, od, an, osl, known, recd, body⟩ := R
  have room : Room 5 callerA := ⟨rfl, by decide, by decide⟩
  have stays : ∀ b o, base.get? b = some o → s.heap.get? b = some o := fun b o z => (top.bs b o z).1
  have here : K.In s.heap := top.mod.kin.keeps stays
  obtain ⟨t, walk, goal⟩ := body base callerA [] s H [.ref a] Q E0 rfl (Room.deeper room _) hsp
  have bound : BindsTo s (lawFn kV doc pm an cdv ct) ⟨[.ref a], []⟩ (List.zip ["_law_script"] [Value.ref a]) := .of_eq rfl
  refine codeAny_call_function (room.depth) (here _ _ known) rfl (show (defScope sLaw).isCoroutine = false from rfl) (show (defScope sLaw).isGenerator = false from rfl) rfl (PySem.W.codeRec_of here recd) (bound _ _ _ _ ?_)
  refine wpAny_newFunctionEnv_cells (show (defScope sLaw).kind = .function from rfl) (fun y hy => ?_) fun env1 is1 s1 entered => ?_
  · have e : y.1 = "_law_script" := congrArg Prod.fst (List.mem_singleton.mp (show y ∈ [(("_law_script" : Str), Value.ref a)] from hy))
    rw [e]
    exact .inl (show (defScope sLaw).names.lookup ("_law_script" : Str) = some NameKind.local by decide +kernel)
  subst is1
  refine ⟨(top.mod.nolimit.keeps stays).keeps entered.toInCall.keep, codeAny_func ?_⟩
  have start1 := inv_start (CX := CX0) (E := E0) (us := [Value.ref a]) (vs := [V.ref a]) scLaw rfl top rfl (.cons rfl .nil) entered
  refine wpAny_mono (walk.nox.run [] s1 (start nLaw [.ref a]) H _ start1 goal) (fun flow s2 done => ?_) fun x s2 bad => bad
  cases flow with
  | brk => exact done.elim fun _ z => z.elim fun _ z => z.2.elim
  | cont => exact done.elim fun _ z => z.elim fun _ z => z.2.elim
  | next =>
    obtain ⟨σ', H', J, q⟩ := done
    exact ⟨.non, H', J.os, J.bare, J.base, J.hok, rfl, q⟩
  | ret u =>
    obtain ⟨v, σ', H', J, ru, q⟩ := done
    exact ⟨v, H', J.os, J.bare, J.base, J.hok, ru, q⟩

/-- the heap that tells the script alone -/
def scriptH (a : Addr) (vs : List Value) (ns : List Int) : Hp := fun b => if b = a then some (.frz { cls := .type "list", data := .seq vs.toArray } (.lst (ns.map V.int))) else none

/-- what the head asks of the call -/
theorem law_ends {fa a : Addr} {s : Shared} {vs : List Value} {ns : List Int} {mb : Str → Option Value} (R : Ready P w K mg fa) (KX : K.In s.heap) (G : s.heap.Ns mainGlobals mg) (B : s.heap.Ns builtinsNs mb) (boot : ∀ x : Str, x ≠ "__name__" → mb x = bootBuiltins x)
    (nl : s.heap.NoLimit) (gs : s.gens = #[]) (at_a : s.heap.get? a = some { cls := .type "list", data := .seq vs.toArray }) (are : IntsAre vs ns) (few : ns.length ≤ sizeLine) :
    codeAny (model P w) callerA (.call (.ref fa) ⟨[.ref a], []⟩) (fun r s' => r = .ok (.ret (.bool true)) ∧ OldK s.heap s'.heap ∧ s'.os = s.os ∧ AllBare s'.gens) s := by
  have abs := vals_ints are
  have long := are.length
  -- H tells of the script at most
  suffices main : ∀ H : Hp, (∀ b, H b = none ∨ (b = a ∧ K.lookup a = none ∧ H b = scriptH a vs ns a)) → SqL K H a (ns.map V.int) → HOk P w H s.heap →
      codeAny (model P w) callerA (.call (.ref fa) ⟨[.ref a], []⟩) (fun r s' => r = .ok (.ret (.bool true)) ∧ OldK s.heap s'.heap ∧ s'.os = s.os ∧ AllBare s'.gens) s by
    cases known : K.lookup a with
    | none =>
      refine main (scriptH a vs ns) (fun b => ?_) (.inl (.inr ⟨_, if_pos rfl⟩)) (fun b u z => ?_)
      · by_cases hb : b = a
        · exact .inr ⟨hb, known, by rw [hb]⟩
        · exact .inl (if_neg hb)
      · unfold scriptH at z
        split at z
        · rename_i hb
          cases z
          rw [hb]
          exact ⟨at_a, by rw [List.length_map]; exact few, vs, _, abs, at_a⟩
        · cases z
    | some o =>
      have at_K := (KX a o known).symm.trans at_a
      cases at_K
      refine main (fun _ => none) (fun _ => .inl rfl) (.inr ⟨_, vs.toArray, 0, known, rfl, rfl, rfl, ?_, ?_⟩) (fun b u z => ?_)
      · rw [List.size_toArray, long]
        exact few
      · exact abs
      · cases (show (none : Option HO) = some u from z)
  intro H only sq ok
  have untold : ∀ {b : Addr} {o : Obj}, s.heap.get? b = some o → (b = a → K.lookup a ≠ none) → H b = none := fun {b o} _ n => by
    rcases only b with z | ⟨z1, z2, _⟩
    · exact z
    · exact absurd z2 (n z1)
  have dicts : ∀ {b : Addr} {o : Obj} {es : Array DictEntry} {ep : Nat}, s.heap.get? b = some o → o.data = .dict es ep → (hidT s.heap H).get? b = some o := fun {b o es ep} z d => hidT_get z (by
    rcases only b with z2 | ⟨z2, _⟩
    · exact z2
    · rw [z2, at_a] at z
      cases z
      exact absurd (show Data.seq vs.toArray _ = Data.dict es ep from d) (by intro n; cases n))
  have names : ∀ {b : Addr} {m : Str → Option Value}, s.heap.Ns b m → (hidT s.heap H).Ns b m := fun {b m} z => by
    obtain ⟨o, es, ep, z1, z2, z3⟩ := z
    exact ⟨o, es, ep, dicts z1 z2, z2, z3⟩
  have kin : K.In (hidT s.heap H) := fun b o z => hidT_get (KX b o z) (untold (KX b o z) fun hb n => by
    rw [hb, n] at z
    cases z)
  have mod : Mod K mg (hidT s.heap H) := ⟨kin, names G, ⟨mb, names B, boot⟩, by
    obtain ⟨mc, n1, n2⟩ := nl
    exact ⟨mc, names n1, n2⟩⟩
  have top : Env0 P w K mg (hidT s.heap H) callerA [] s H := ⟨rfl, mod, fun b o z => of_hidT z, Nat.le_of_eq (hidT_size _ _), trivial, fun b z => absurd z List.not_mem_nil, ok, .of_eq gs⟩
  refine codeAny_mono (at_top (Q := fun v _ => v = .bl true) R top ⟨a, ns, rfl, sq, fun _ => rfl⟩) fun r s' ended => ?_
  match r, ended with
  | .error _, bad => exact bad.elim
  | .ok .next, bad => exact bad.elim
  | .ok .brk, bad => exact bad.elim
  | .ok .cont, bad => exact bad.elim
  | .ok (.ret u), ⟨v, H', os, bare, un, ok', ru, yes⟩ =>
    have yes' : v = .bl true := yes
    rw [yes'] at ru
    have is_true : u = Value.bool true := ru
    refine ⟨by rw [is_true], OldK.of_keep fun b o z => ?_, os, bare⟩
    rcases only b with free | ⟨hb, _, told⟩
    · exact un.keep b o z free List.not_mem_nil List.not_mem_nil
    · have f0 : H b = some (.frz { cls := .type "list", data := .seq vs.toArray } (.lst (ns.map V.int))) := told.trans (if_pos rfl)
      have f1 := (ok b _ f0).1
      have f2 := (ok' b _ (un.frzs b _ _ f0)).1
      rw [z] at f1
      cases f1
      exact f2

/-- the goal that the head leaves -/
theorem law_walk {l : PySem.W.OpenLaw} {n : Nat} {q : Program} {loose : List Str} {XP : (Str → Option Value) → Heap → Prop} {YP : World → Heap → Prop} {d : DefRec} {K : Params → PySem.W.Frag} (most : l.most = some n) (few : n ≤ sizeLine) (plain : d.params.defaults = [])
    (kept : ∀ (w : World) (h : Heap), YP w h → (K w.params).In h) (R : ∀ (w : World) (mg : Str → Option Value) (fa : Addr) (h : Heap), (K w.params).In h → h.Ns mainGlobals mg → mg d.name = some (.ref fa) → Ready l.prog w (K w.params) mg fa) :
    PySem.W.WalkO q loose XP YP l.row.toRowW d [] (fun f vs => PySem.call f vs) :=
  Att.attach_call most plain fun w s₀ s mg mb fa o pm cd doc a vs ns G Y _ _ _ hmg at_a are len gs =>
    law_ends (R w mg fa _ (kept w _ Y) G.T.g hmg) (kept w _ Y) G.T.g G.T.b G.T.builtins G.T.nolimit gs at_a are (Nat.le_trans len few)
end

theorem KB8 {K : PySem.W.Frag} (kV doc pm : Value) (an : Option Addr) (cdv ct : Value) : KBinds K (PySem.W.fnOf "runs_of" "runs_of" (defArgs sRunsOf) (defBody sRunsOf) (defScope sRunsOf) .none kV doc pm an cdv ct) ["chain", "place", "steps"] ["steps"] two1 two1 := by
  refine ⟨fun s us ws _ hl => ?_, two1_rel⟩
  obtain ⟨c, p, z, rfl, rfl⟩ := two1_is hl
  exact .of_eq rfl
theorem KB6 {K : PySem.W.Frag} (kV doc pm : Value) (an : Option Addr) (cdv ct : Value) : KBinds K (PySem.W.fnOf "masses_after" "masses_after" (defArgs sMasses) (defBody sMasses) (defScope sMasses) .none kV doc pm an cdv ct) ["chain", "place", "steps"] ["steps"] two1 two1 := by
  refine ⟨fun s us ws _ hl => ?_, two1_rel⟩
  obtain ⟨c, p, z, rfl, rfl⟩ := two1_is hl
  exact .of_eq rfl

/-- all that the top has written, told of K, makes the law ready -/
theorem ready_mk {P : Program} {w : World} {K : PySem.W.Frag} {mg : Str → Option Value} {h : Heap} {fa aO aN : Addr} (X : K.In h) (G : h.Ns mainGlobals mg) (hfa : mg "law" = some (.ref fa))
    {f1 : Addr} {od1 an1 : Option Addr} {sl1 : Array (Option Value)} {oc1 kV1 dc1 pm1 cd1 ct1 : Value}
    (a1 : PySem.W.nsIn K mainGlobals "number" = some (some (.ref f1))) (l1 : K.lookup f1 = some ⟨oc1, od1, .func (PySem.W.fnOf "number" "number" (defArgs sNumber) (defBody sNumber) (defScope sNumber) .none kV1 dc1 pm1 an1 cd1 ct1), sl1⟩) (c1 : PySem.W.codeIn K cd1 "number" = true) (k1 : PySem.W.keepIn K (.ref f1) = true)
    {f2 : Addr} {od2 an2 : Option Addr} {sl2 : Array (Option Value)} {oc2 kV2 dc2 pm2 cd2 ct2 : Value}
    (a2 : PySem.W.nsIn K mainGlobals "plus" = some (some (.ref f2))) (l2 : K.lookup f2 = some ⟨oc2, od2, .func (PySem.W.fnOf "plus" "plus" (defArgs sPlus) (defBody sPlus) (defScope sPlus) .none kV2 dc2 pm2 an2 cd2 ct2), sl2⟩) (c2 : PySem.W.codeIn K cd2 "plus" = true) (k2 : PySem.W.keepIn K (.ref f2) = true)
    {f3 : Addr} {od3 an3 : Option Addr} {sl3 : Array (Option Value)} {oc3 kV3 dc3 pm3 cd3 ct3 : Value}
    (a3 : PySem.W.nsIn K mainGlobals "times" = some (some (.ref f3))) (l3 : K.lookup f3 = some ⟨oc3, od3, .func (PySem.W.fnOf "times" "times" (defArgs sTimes) (defBody sTimes) (defScope sTimes) .none kV3 dc3 pm3 an3 cd3 ct3), sl3⟩) (c3 : PySem.W.codeIn K cd3 "times" = true) (k3 : PySem.W.keepIn K (.ref f3) = true)
    {f4 : Addr} {od4 an4 : Option Addr} {sl4 : Array (Option Value)} {oc4 kV4 dc4 pm4 cd4 ct4 : Value}
    (a4 : PySem.W.nsIn K mainGlobals "targets" = some (some (.ref f4))) (l4 : K.lookup f4 = some ⟨oc4, od4, .func (PySem.W.fnOf "targets" "targets" (defArgs sTargets) (defBody sTargets) (defScope sTargets) .none kV4 dc4 pm4 an4 cd4 ct4), sl4⟩) (c4 : PySem.W.codeIn K cd4 "targets" = true) (k4 : PySem.W.keepIn K (.ref f4) = true)
    {f5 : Addr} {od5 an5 : Option Addr} {sl5 : Array (Option Value)} {oc5 kV5 dc5 pm5 cd5 ct5 : Value}
    (a5 : PySem.W.nsIn K mainGlobals "chances_to" = some (some (.ref f5))) (l5 : K.lookup f5 = some ⟨oc5, od5, .func (PySem.W.fnOf "chances_to" "chances_to" (defArgs sChances) (defBody sChances) (defScope sChances) .none kV5 dc5 pm5 an5 cd5 ct5), sl5⟩) (c5 : PySem.W.codeIn K cd5 "chances_to" = true) (k5 : PySem.W.keepIn K (.ref f5) = true)
    {f6 : Addr} {od6 an6 : Option Addr} {sl6 : Array (Option Value)} {oc6 kV6 dc6 pm6 cd6 ct6 : Value}
    (a6 : PySem.W.nsIn K mainGlobals "masses_after" = some (some (.ref f6))) (l6 : K.lookup f6 = some ⟨oc6, od6, .func (PySem.W.fnOf "masses_after" "masses_after" (defArgs sMasses) (defBody sMasses) (defScope sMasses) .none kV6 dc6 pm6 an6 cd6 ct6), sl6⟩) (c6 : PySem.W.codeIn K cd6 "masses_after" = true) (k6 : PySem.W.keepIn K (.ref f6) = true)
    {f7 : Addr} {od7 an7 : Option Addr} {sl7 : Array (Option Value)} {oc7 kV7 dc7 pm7 cd7 ct7 : Value}
    (a7 : PySem.W.nsIn K mainGlobals "step_chance" = some (some (.ref f7))) (l7 : K.lookup f7 = some ⟨oc7, od7, .func (PySem.W.fnOf "step_chance" "step_chance" (defArgs sStepCh) (defBody sStepCh) (defScope sStepCh) .none kV7 dc7 pm7 an7 cd7 ct7), sl7⟩) (c7 : PySem.W.codeIn K cd7 "step_chance" = true) (k7 : PySem.W.keepIn K (.ref f7) = true)
    {f8 : Addr} {od8 an8 : Option Addr} {sl8 : Array (Option Value)} {oc8 kV8 dc8 pm8 cd8 ct8 : Value}
    (a8 : PySem.W.nsIn K mainGlobals "runs_of" = some (some (.ref f8))) (l8 : K.lookup f8 = some ⟨oc8, od8, .func (PySem.W.fnOf "runs_of" "runs_of" (defArgs sRunsOf) (defBody sRunsOf) (defScope sRunsOf) .none kV8 dc8 pm8 an8 cd8 ct8), sl8⟩) (c8 : PySem.W.codeIn K cd8 "runs_of" = true) (k8 : PySem.W.keepIn K (.ref f8) = true)
    {f9 : Addr} {od9 an9 : Option Addr} {sl9 : Array (Option Value)} {oc9 kV9 dc9 pm9 cd9 ct9 : Value}
    (a9 : PySem.W.nsIn K mainGlobals "_law_draw" = some (some (.ref f9))) (l9 : K.lookup f9 = some ⟨oc9, od9, .func (PySem.W.fnOf "_law_draw" "_law_draw" (defArgs sDraw) (defBody sDraw) (defScope sDraw) .none kV9 dc9 pm9 an9 cd9 ct9), sl9⟩) (c9 : PySem.W.codeIn K cd9 "_law_draw" = true) (k9 : PySem.W.keepIn K (.ref f9) = true)
    {f10 : Addr} {od10 an10 : Option Addr} {sl10 : Array (Option Value)} {oc10 kV10 dc10 pm10 cd10 ct10 : Value}
    (a10 : PySem.W.nsIn K mainGlobals "_law_number" = some (some (.ref f10))) (l10 : K.lookup f10 = some ⟨oc10, od10, .func (PySem.W.fnOf "_law_number" "_law_number" (defArgs sLNumber) (defBody sLNumber) (defScope sLNumber) .none kV10 dc10 pm10 an10 cd10 ct10), sl10⟩) (c10 : PySem.W.codeIn K cd10 "_law_number" = true) (k10 : PySem.W.keepIn K (.ref f10) = true)
    {f11 : Addr} {od11 an11 : Option Addr} {sl11 : Array (Option Value)} {oc11 kV11 dc11 pm11 cd11 ct11 : Value}
    (a11 : PySem.W.nsIn K mainGlobals "_law_plus" = some (some (.ref f11))) (l11 : K.lookup f11 = some ⟨oc11, od11, .func (PySem.W.fnOf "_law_plus" "_law_plus" (defArgs sLPlus) (defBody sLPlus) (defScope sLPlus) .none kV11 dc11 pm11 an11 cd11 ct11), sl11⟩) (c11 : PySem.W.codeIn K cd11 "_law_plus" = true) (k11 : PySem.W.keepIn K (.ref f11) = true)
    {f12 : Addr} {od12 an12 : Option Addr} {sl12 : Array (Option Value)} {oc12 kV12 dc12 pm12 cd12 ct12 : Value}
    (a12 : PySem.W.nsIn K mainGlobals "_law_times" = some (some (.ref f12))) (l12 : K.lookup f12 = some ⟨oc12, od12, .func (PySem.W.fnOf "_law_times" "_law_times" (defArgs sLTimes) (defBody sLTimes) (defScope sLTimes) .none kV12 dc12 pm12 an12 cd12 ct12), sl12⟩) (c12 : PySem.W.codeIn K cd12 "_law_times" = true) (k12 : PySem.W.keepIn K (.ref f12) = true)
    {f13 : Addr} {od13 an13 : Option Addr} {sl13 : Array (Option Value)} {oc13 kV13 dc13 pm13 cd13 ct13 : Value}
    (a13 : PySem.W.nsIn K mainGlobals "_law_is_number" = some (some (.ref f13))) (l13 : K.lookup f13 = some ⟨oc13, od13, .func (PySem.W.fnOf "_law_is_number" "_law_is_number" (defArgs sIsNum) (defBody sIsNum) (defScope sIsNum) .none kV13 dc13 pm13 an13 cd13 ct13), sl13⟩) (c13 : PySem.W.codeIn K cd13 "_law_is_number" = true) (k13 : PySem.W.keepIn K (.ref f13) = true)
    {f14 : Addr} {od14 an14 : Option Addr} {sl14 : Array (Option Value)} {oc14 kV14 dc14 pm14 cd14 ct14 : Value}
    (a14 : PySem.W.nsIn K mainGlobals "_law_shares" = some (some (.ref f14))) (l14 : K.lookup f14 = some ⟨oc14, od14, .func (PySem.W.fnOf "_law_shares" "_law_shares" (defArgs sShares) (defBody sShares) (defScope sShares) .none kV14 dc14 pm14 an14 cd14 ct14), sl14⟩) (c14 : PySem.W.codeIn K cd14 "_law_shares" = true) (k14 : PySem.W.keepIn K (.ref f14) = true)
    {f15 : Addr} {od15 an15 : Option Addr} {sl15 : Array (Option Value)} {oc15 kV15 dc15 pm15 cd15 ct15 : Value}
    (a15 : PySem.W.nsIn K mainGlobals "_law_place" = some (some (.ref f15))) (l15 : K.lookup f15 = some ⟨oc15, od15, .func (PySem.W.fnOf "_law_place" "_law_place" (defArgs sPlace) (defBody sPlace) (defScope sPlace) .none kV15 dc15 pm15 an15 cd15 ct15), sl15⟩) (c15 : PySem.W.codeIn K cd15 "_law_place" = true) (k15 : PySem.W.keepIn K (.ref f15) = true)
    {f16 : Addr} {od16 an16 : Option Addr} {sl16 : Array (Option Value)} {oc16 kV16 dc16 pm16 cd16 ct16 : Value}
    (a16 : PySem.W.nsIn K mainGlobals "_law_game" = some (some (.ref f16))) (l16 : K.lookup f16 = some ⟨oc16, od16, .func (PySem.W.fnOf "_law_game" "_law_game" (defArgs sGame) (defBody sGame) (defScope sGame) .none kV16 dc16 pm16 an16 cd16 ct16), sl16⟩) (c16 : PySem.W.codeIn K cd16 "_law_game" = true) (k16 : PySem.W.keepIn K (.ref f16) = true)
    {f17 : Addr} {od17 an17 : Option Addr} {sl17 : Array (Option Value)} {oc17 kV17 dc17 pm17 cd17 ct17 : Value}
    (a17 : PySem.W.nsIn K mainGlobals "_law_targets" = some (some (.ref f17))) (l17 : K.lookup f17 = some ⟨oc17, od17, .func (PySem.W.fnOf "_law_targets" "_law_targets" (defArgs sLTargets) (defBody sLTargets) (defScope sLTargets) .none kV17 dc17 pm17 an17 cd17 ct17), sl17⟩) (c17 : PySem.W.codeIn K cd17 "_law_targets" = true) (k17 : PySem.W.keepIn K (.ref f17) = true)
    {f18 : Addr} {od18 an18 : Option Addr} {sl18 : Array (Option Value)} {oc18 kV18 dc18 pm18 cd18 ct18 : Value}
    (a18 : PySem.W.nsIn K mainGlobals "_law_step" = some (some (.ref f18))) (l18 : K.lookup f18 = some ⟨oc18, od18, .func (PySem.W.fnOf "_law_step" "_law_step" (defArgs sLStep) (defBody sLStep) (defScope sLStep) .none kV18 dc18 pm18 an18 cd18 ct18), sl18⟩) (c18 : PySem.W.codeIn K cd18 "_law_step" = true) (k18 : PySem.W.keepIn K (.ref f18) = true)
    {f19 : Addr} {od19 an19 : Option Addr} {sl19 : Array (Option Value)} {oc19 kV19 dc19 pm19 cd19 ct19 : Value}
    (a19 : PySem.W.nsIn K mainGlobals "_law_runs" = some (some (.ref f19))) (l19 : K.lookup f19 = some ⟨oc19, od19, .func (PySem.W.fnOf "_law_runs" "_law_runs" (defArgs sLRuns) (defBody sLRuns) (defScope sLRuns) .none kV19 dc19 pm19 an19 cd19 ct19), sl19⟩) (c19 : PySem.W.codeIn K cd19 "_law_runs" = true) (k19 : PySem.W.keepIn K (.ref f19) = true)
    {f20 : Addr} {od20 an20 : Option Addr} {sl20 : Array (Option Value)} {oc20 kV20 dc20 pm20 cd20 ct20 : Value}
    (a20 : PySem.W.nsIn K mainGlobals "_law_chance" = some (some (.ref f20))) (l20 : K.lookup f20 = some ⟨oc20, od20, .func (PySem.W.fnOf "_law_chance" "_law_chance" (defArgs sLChance) (defBody sLChance) (defScope sLChance) .none kV20 dc20 pm20 an20 cd20 ct20), sl20⟩) (c20 : PySem.W.codeIn K cd20 "_law_chance" = true) (k20 : PySem.W.keepIn K (.ref f20) = true)
    {f21 : Addr} {od21 an21 : Option Addr} {sl21 : Array (Option Value)} {oc21 kV21 dc21 pm21 cd21 ct21 : Value}
    (a21 : PySem.W.nsIn K mainGlobals "law" = some (some (.ref f21))) (l21 : K.lookup f21 = some ⟨oc21, od21, .func (PySem.W.fnOf "law" "law" (defArgs sLaw) (defBody sLaw) (defScope sLaw) .none kV21 dc21 pm21 an21 cd21 ct21), sl21⟩) (c21 : PySem.W.codeIn K cd21 "law" = true) (k21 : PySem.W.keepIn K (.ref f21) = true)
    (ag : PySem.W.nsIn K mainGlobals "gcd" = some (some (.builtin "math.gcd")))
    {odO odN : Option Addr} {slO slN : Array (Option Value)} {itO itN : Array Value} {nO nN : Nat}
    (aO1 : PySem.W.nsIn K mainGlobals "ONE" = some (some (.ref aO))) (aO2 : K.lookup aO = some ⟨.type "tuple", odO, .seq itO nO, slO⟩) (aO3 : Vals (nuL 1) itO.toList)
    (aN1 : PySem.W.nsIn K mainGlobals "NOUGHT" = some (some (.ref aN))) (aN2 : K.lookup aN = some ⟨.type "tuple", odN, .seq itN nN, slN⟩) (aN3 : Vals (nuL 0) itN.toList)
    (z1 : PySem.W.nsIn K mainGlobals "len" = some none)
    (z2 : PySem.W.nsIn K mainGlobals "range" = some none)
    (z3 : PySem.W.nsIn K mainGlobals "list" = some none)
    (z4 : PySem.W.nsIn K mainGlobals "sorted" = some none)
    (z5 : PySem.W.nsIn K mainGlobals "set" = some none)
    (z6 : PySem.W.nsIn K mainGlobals "enumerate" = some none)
    (z7 : PySem.W.nsIn K mainGlobals "isinstance" = some none)
    (z8 : PySem.W.nsIn K mainGlobals "tuple" = some none)
    (z9 : PySem.W.nsIn K mainGlobals "int" = some none)
    (z10 : PySem.W.nsIn K mainGlobals "bool" = some none)
    (z11 : PySem.W.nsIn K mainGlobals "abs" = some none)
    (z12 : PySem.W.nsIn K mainGlobals "sum" = some none)
    (z13 : PySem.W.nsIn K mainGlobals "repr" = some none) :
    Ready P w K mg fa := by
  have e := hfa.symm.trans (PySem.W.mg_of X G a21)
  cases e
  have F1 := fun_mk (st := sNumber) l1 c1 k1
  have g1 := PySem.W.mg_of X G a1
  have F2 := fun_mk (st := sPlus) l2 c2 k2
  have g2 := PySem.W.mg_of X G a2
  have F3 := fun_mk (st := sTimes) l3 c3 k3
  have g3 := PySem.W.mg_of X G a3
  have F4 := fun_mk (st := sTargets) l4 c4 k4
  have g4 := PySem.W.mg_of X G a4
  have F5 := fun_mk (st := sChances) l5 c5 k5
  have g5 := PySem.W.mg_of X G a5
  have F6 := fun_mk (st := sMasses) l6 c6 k6
  have g6 := PySem.W.mg_of X G a6
  have F7 := fun_mk (st := sStepCh) l7 c7 k7
  have g7 := PySem.W.mg_of X G a7
  have F8 := fun_mk (st := sRunsOf) l8 c8 k8
  have g8 := PySem.W.mg_of X G a8
  have F9 := fun_mk (st := sDraw) l9 c9 k9
  have g9 := PySem.W.mg_of X G a9
  have F10 := fun_mk (st := sLNumber) l10 c10 k10
  have g10 := PySem.W.mg_of X G a10
  have F11 := fun_mk (st := sLPlus) l11 c11 k11
  have g11 := PySem.W.mg_of X G a11
  have F12 := fun_mk (st := sLTimes) l12 c12 k12
  have g12 := PySem.W.mg_of X G a12
  have F13 := fun_mk (st := sIsNum) l13 c13 k13
  have g13 := PySem.W.mg_of X G a13
  have F14 := fun_mk (st := sShares) l14 c14 k14
  have g14 := PySem.W.mg_of X G a14
  have F15 := fun_mk (st := sPlace) l15 c15 k15
  have g15 := PySem.W.mg_of X G a15
  have F16 := fun_mk (st := sGame) l16 c16 k16
  have g16 := PySem.W.mg_of X G a16
  have F17 := fun_mk (st := sLTargets) l17 c17 k17
  have g17 := PySem.W.mg_of X G a17
  have F18 := fun_mk (st := sLStep) l18 c18 k18
  have g18 := PySem.W.mg_of X G a18
  have F19 := fun_mk (st := sLRuns) l19 c19 k19
  have g19 := PySem.W.mg_of X G a19
  have F20 := fun_mk (st := sLChance) l20 c20 k20
  have g20 := PySem.W.mg_of X G a20
  have F21 := fun_mk (st := sLaw) l21 c21 k21
  have g21 := PySem.W.mg_of X G a21
  have b1 := F1.binds (ps := ["n", "d"]) fun _ _ _ _ _ _ us hl => match us, hl with | [_, _], _ => rfl
  have b2 := F2.binds (ps := ["a", "b"]) fun _ _ _ _ _ _ us hl => match us, hl with | [_, _], _ => rfl
  have b3 := F3.binds (ps := ["a", "b"]) fun _ _ _ _ _ _ us hl => match us, hl with | [_, _], _ => rfl
  have b4 := F4.binds (ps := ["game", "place"]) fun _ _ _ _ _ _ us hl => match us, hl with | [_, _], _ => rfl
  have b5 := F5.binds (ps := ["chain", "place"]) fun _ _ _ _ _ _ us hl => match us, hl with | [_, _], _ => rfl
  have b7 := F7.binds (ps := ["chain", "place", "target"]) fun _ _ _ _ _ _ us hl => match us, hl with | [_, _, _], _ => rfl
  have b9 := F9.binds (ps := ["_law_stream", "_law_many"]) fun _ _ _ _ _ _ us hl => match us, hl with | [_, _], _ => rfl
  have b10 := F10.binds (ps := ["_law_n", "_law_d"]) fun _ _ _ _ _ _ us hl => match us, hl with | [_, _], _ => rfl
  have b11 := F11.binds (ps := ["_law_a", "_law_b"]) fun _ _ _ _ _ _ us hl => match us, hl with | [_, _], _ => rfl
  have b12 := F12.binds (ps := ["_law_a", "_law_b"]) fun _ _ _ _ _ _ us hl => match us, hl with | [_, _], _ => rfl
  have b13 := F13.binds (ps := ["_law_actual"]) fun _ _ _ _ _ _ us hl => match us, hl with | [_], _ => rfl
  have b14 := F14.binds (ps := ["_law_stream", "_law_many"]) fun _ _ _ _ _ _ us hl => match us, hl with | [_, _], _ => rfl
  have b15 := F15.binds (ps := ["_law_stream", "_law_kind", "_law_many"]) fun _ _ _ _ _ _ us hl => match us, hl with | [_, _, _], _ => rfl
  have b16 := F16.binds (ps := ["_law_stream", "_law_most", "_law_kinds"]) fun _ _ _ _ _ _ us hl => match us, hl with | [_, _, _], _ => rfl
  have b17 := F17.binds (ps := ["_law_place_here"]) fun _ _ _ _ _ _ us hl => match us, hl with | [_], _ => rfl
  have b18 := F18.binds (ps := ["_law_place_here", "_law_target"]) fun _ _ _ _ _ _ us hl => match us, hl with | [_, _], _ => rfl
  have b19 := F19.binds (ps := ["_law_chain", "_law_place_here", "_law_steps"]) fun _ _ _ _ _ _ us hl => match us, hl with | [_, _, _], _ => rfl
  have b20 := F20.binds (ps := ["_law_chain", "_law_run"]) fun _ _ _ _ _ _ us hl => match us, hl with | [_, _], _ => rfl
  have T : Txt K mg := ⟨PySem.W.mg_of X G ag, ⟨_, PySem.W.mg_of X G aO1, fun _ => tupK aO2 aO3⟩, ⟨_, PySem.W.mg_of X G aN1, fun _ => tupK aN2 aN3⟩, PySem.W.mg_none_of X G z1, PySem.W.mg_none_of X G z2, PySem.W.mg_none_of X G z3, PySem.W.mg_none_of X G z4, PySem.W.mg_none_of X G z5, PySem.W.mg_none_of X G z6, PySem.W.mg_none_of X G z7, PySem.W.mg_none_of X G z8, PySem.W.mg_none_of X G z9, PySem.W.mg_none_of X G z10, PySem.W.mg_none_of X G z11, PySem.W.mg_none_of X G z12, PySem.W.mg_none_of X G z13⟩
  refine ⟨_, _, _, _, _, _, _, _, _, l21, c21, fun base A outer s H vs Q E hgd hr hsp => ?_⟩
  have G1 : FnOk P w K mg base CX0 1 f1 _ ["n", "d"] spNum := ok_number F1 T.gcd
  have C1 : C8.Cal P w K mg base 1 "number" spNum [] := ⟨f1, _, _, [], G1, g1, k1, b1, .nil⟩
  have G2 : FnOk P w K mg base CX0 2 f2 _ ["a", "b"] (spPlus K) := ok_plus F2 F1 b1 g1 G1
  have C2 : C8.Cal P w K mg base 2 "plus" (spPlus K) [] := ⟨f2, _, _, [], G2, g2, k2, b2, .nil⟩
  have G3 : FnOk P w K mg base CX0 2 f3 _ ["a", "b"] (spTimes K) := ok_times F3 F1 b1 g1 G1
  have C3 : C8.Cal P w K mg base 2 "times" (spTimes K) [] := ⟨f3, _, _, [], G3, g3, k3, b3, .nil⟩
  have G4 : FnOk P w K mg base CX0 1 f4 _ ["game", "place"] (spTargets K) := ok_targets F4 T
  have C4 : C8.Cal P w K mg base 1 "targets" (spTargets K) [] := ⟨f4, _, _, [], G4, g4, k4, b4, .nil⟩
  have G5 : FnOk P w K mg base CX0 1 f5 _ ["chain", "place"] (spChances K) := ok_chances F5 T
  have C5 : C8.Cal P w K mg base 1 "chances_to" (spChances K) [] := ⟨f5, _, _, [], G5, g5, k5, b5, .nil⟩
  have G7 : FnOk P w K mg base CX0 3 f7 _ ["chain", "place", "target"] (spStep K) := ok_step F7 T C5 C2
  have C7 : C8.Cal P w K mg base 3 "step_chance" (spStep K) [] := ⟨f7, _, _, [], G7, g7, k7, b7, .nil⟩
  have G6 : FnOk P w K mg base CX0 3 f6 _ ["chain", "place", "steps"] (spMasses K) := ok_masses F6 T C5 C2 C3
  have G8 : FnOk P w K mg base CX0 4 f8 _ ["chain", "place", "steps"] (spRuns K) := ok_runs F8 T C4 C7 C3
  have G9 : FnOk P w K mg base CX0 1 f9 _ ["_law_stream", "_law_many"] (spDraw K) := ok_draw F9 T
  have C9 : C8.Cal P w K mg base 1 "_law_draw" (spDraw K) [] := ⟨f9, _, _, [], G9, g9, k9, b9, .nil⟩
  have G10 : FnOk P w K mg base CX0 1 f10 _ ["_law_n", "_law_d"] spNum := ok_lnumber F10 T.abs T.int
  have C10 : C8.Cal P w K mg base 1 "_law_number" spNum [] := ⟨f10, _, _, [], G10, g10, k10, b10, .nil⟩
  have G11 : FnOk P w K mg base CX0 2 f11 _ ["_law_a", "_law_b"] (spPlus K) := ok_lplus F11 F10 b10 g10 G10
  have C11 : C8.Cal P w K mg base 2 "_law_plus" (spPlus K) [] := ⟨f11, _, _, [], G11, g11, k11, b11, .nil⟩
  have G12 : FnOk P w K mg base CX0 2 f12 _ ["_law_a", "_law_b"] (spTimes K) := ok_ltimes F12 F10 b10 g10 G10
  have C12 : C8.Cal P w K mg base 2 "_law_times" (spTimes K) [] := ⟨f12, _, _, [], G12, g12, k12, b12, .nil⟩
  have G13 : FnOk P w K mg base CX0 2 f13 _ ["_law_actual"] (spIsNum K) := ok_isnum F13 T C10
  have C13 : C8.Cal P w K mg base 2 "_law_is_number" (spIsNum K) [] := ⟨f13, _, _, [], G13, g13, k13, b13, .nil⟩
  have G14 : FnOk P w K mg base CX0 2 f14 _ ["_law_stream", "_law_many"] (spShares K) := ok_shares F14 T C9 C10
  have C14 : C8.Cal P w K mg base 2 "_law_shares" (spShares K) [] := ⟨f14, _, _, [], G14, g14, k14, b14, .nil⟩
  have G15 : FnOk P w K mg base CX0 3 f15 _ ["_law_stream", "_law_kind", "_law_many"] (spPlace K) := ok_place F15 T C9 C10 C14
  have C15 : C8.Cal P w K mg base 3 "_law_place" (spPlace K) [] := ⟨f15, _, _, [], G15, g15, k15, b15, .nil⟩
  have G16 : FnOk P w K mg base CX0 4 f16 _ ["_law_stream", "_law_most", "_law_kinds"] (spGame K) := ok_game F16 T C9 C15
  have C16 : C8.Cal P w K mg base 4 "_law_game" (spGame K) [] := ⟨f16, _, _, [], G16, g16, k16, b16, .nil⟩
  have G17 : FnOk P w K mg base CX0 1 f17 _ ["_law_place_here"] (spLTargets K) := ok_ltargets F17 T
  have C17 : C8.Cal P w K mg base 1 "_law_targets" (spLTargets K) [] := ⟨f17, _, _, [], G17, g17, k17, b17, .nil⟩
  have G18 : FnOk P w K mg base CX0 3 f18 _ ["_law_place_here", "_law_target"] (spLStep K) := ok_lstep F18 C11
  have C18 : C8.Cal P w K mg base 3 "_law_step" (spLStep K) [] := ⟨f18, _, _, [], G18, g18, k18, b18, .nil⟩
  have G19 : FnOk P w K mg base CX0 2 f19 _ ["_law_chain", "_law_place_here", "_law_steps"] (spLRuns K) := ok_lruns F19 T C17
  have C19 : C8.Cal P w K mg base 2 "_law_runs" (spLRuns K) [] := ⟨f19, _, _, [], G19, g19, k19, b19, .nil⟩
  have G20 : FnOk P w K mg base CX0 4 f20 _ ["_law_chain", "_law_run"] (spLChance K) := ok_lchance F20 T C12 C18
  have C20 : C8.Cal P w K mg base 4 "_law_chance" (spLChance K) [] := ⟨f20, _, _, [], G20, g20, k20, b20, .nil⟩
  have B8 : KBinds K (PySem.W.fnOf "runs_of" "runs_of" (defArgs sRunsOf) (defBody sRunsOf) (defScope sRunsOf) .none kV8 dc8 pm8 an8 cd8 ct8) ["chain", "place", "steps"] ["steps"] two1 two1 := KB8 kV8 dc8 pm8 an8 cd8 ct8
  have B6 : KBinds K (PySem.W.fnOf "masses_after" "masses_after" (defArgs sMasses) (defBody sMasses) (defScope sMasses) .none kV6 dc6 pm6 an6 cd6 ct6) ["chain", "place", "steps"] ["steps"] two1 two1 := KB6 kV6 dc6 pm6 an6 cd6 ct6
  exact law_body T C16 C9 C19 C20 C13 C11 G8 g8 k8 B8 G6 g6 k6 B6 cd21 A outer s H vs Q E hgd hr hsp
end K20

open PySem PySem.W PyProof.Rows
set_option maxHeartbeats 0 in
theorem PySem.Challenge.cw_oddkeep_k20_whole_runs_of_steps_holds : PySem.Challenge.rw_oddkeep_k20_whole_runs_of_steps.Holds := by
  w_on; o_law; k_head; (case hw => w_witness2)
  k_fill
  refine K20.law_walk (l := PySem.Challenge.rw_oddkeep_k20_whole_runs_of_steps) (n := 63) rfl (by decide) rfl (fun w h Y => PySem.W.kIn_of Y) ?F
  case F =>
    intro w mg fa h KX G hmg
    refine' K20.ready_mk KX G hmg ?a1 ?l1 ?c1 ?k1 ?a2 ?l2 ?c2 ?k2 ?a3 ?l3 ?c3 ?k3 ?a4 ?l4 ?c4 ?k4 ?a5 ?l5 ?c5 ?k5 ?a6 ?l6 ?c6 ?k6 ?a7 ?l7 ?c7 ?k7 ?a8 ?l8 ?c8 ?k8 ?a9 ?l9 ?c9 ?k9 ?a10 ?l10 ?c10 ?k10 ?a11 ?l11 ?c11 ?k11 ?a12 ?l12 ?c12 ?k12 ?a13 ?l13 ?c13 ?k13 ?a14 ?l14 ?c14 ?k14 ?a15 ?l15 ?c15 ?k15 ?a16 ?l16 ?c16 ?k16 ?a17 ?l17 ?c17 ?k17 ?a18 ?l18 ?c18 ?k18 ?a19 ?l19 ?c19 ?k19 ?a20 ?l20 ?c20 ?k20 ?a21 ?l21 ?c21 ?k21 ?ag ?aO1 ?aO2 ?aO3 ?aN1 ?aN2 ?aN3 ?z1 ?z2 ?z3 ?z4 ?z5 ?z6 ?z7 ?z8 ?z9 ?z10 ?z11 ?z12 ?z13
    (case a1 => k_is)
    (case l1 => k_is)
    (case c1 => k_is)
    (case k1 => k_is)
    (case a2 => k_is)
    (case l2 => k_is)
    (case c2 => k_is)
    (case k2 => k_is)
    (case a3 => k_is)
    (case l3 => k_is)
    (case c3 => k_is)
    (case k3 => k_is)
    (case a4 => k_is)
    (case l4 => k_is)
    (case c4 => k_is)
    (case k4 => k_is)
    (case a5 => k_is)
    (case l5 => k_is)
    (case c5 => k_is)
    (case k5 => k_is)
    (case a6 => k_is)
    (case l6 => k_is)
    (case c6 => k_is)
    (case k6 => k_is)
    (case a7 => k_is)
    (case l7 => k_is)
    (case c7 => k_is)
    (case k7 => k_is)
    (case a8 => k_is)
    (case l8 => k_is)
    (case c8 => k_is)
    (case k8 => k_is)
    (case a9 => k_is)
    (case l9 => k_is)
    (case c9 => k_is)
    (case k9 => k_is)
    (case a10 => k_is)
    (case l10 => k_is)
    (case c10 => k_is)
    (case k10 => k_is)
    (case a11 => k_is)
    (case l11 => k_is)
    (case c11 => k_is)
    (case k11 => k_is)
    (case a12 => k_is)
    (case l12 => k_is)
    (case c12 => k_is)
    (case k12 => k_is)
    (case a13 => k_is)
    (case l13 => k_is)
    (case c13 => k_is)
    (case k13 => k_is)
    (case a14 => k_is)
    (case l14 => k_is)
    (case c14 => k_is)
    (case k14 => k_is)
    (case a15 => k_is)
    (case l15 => k_is)
    (case c15 => k_is)
    (case k15 => k_is)
    (case a16 => k_is)
    (case l16 => k_is)
    (case c16 => k_is)
    (case k16 => k_is)
    (case a17 => k_is)
    (case l17 => k_is)
    (case c17 => k_is)
    (case k17 => k_is)
    (case a18 => k_is)
    (case l18 => k_is)
    (case c18 => k_is)
    (case k18 => k_is)
    (case a19 => k_is)
    (case l19 => k_is)
    (case c19 => k_is)
    (case k19 => k_is)
    (case a20 => k_is)
    (case l20 => k_is)
    (case c20 => k_is)
    (case k20 => k_is)
    (case a21 => k_is)
    (case l21 => k_is)
    (case c21 => k_is)
    (case k21 => k_is)
    (case ag => k_is)
    (case aO1 => k_is)
    (case aO2 => k_is)
    (case aO3 => exact .cons ⟨_, rfl⟩ (.cons ⟨_, rfl⟩ .nil))
    (case aN1 => k_is)
    (case aN2 => k_is)
    (case aN3 => exact .cons ⟨_, rfl⟩ (.cons ⟨_, rfl⟩ .nil))
    (case z1 => k_is)
    (case z2 => k_is)
    (case z3 => k_is)
    (case z4 => k_is)
    (case z5 => k_is)
    (case z6 => k_is)
    (case z7 => k_is)
    (case z8 => k_is)
    (case z9 => k_is)
    (case z10 => k_is)
    (case z11 => k_is)
    (case z12 => k_is)
    (case z13 => k_is)
