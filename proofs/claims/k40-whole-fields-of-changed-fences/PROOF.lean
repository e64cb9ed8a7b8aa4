import PyProof.Rows.All
import Wide.All
import OpenK.AllK
import Wide.FinOn
import KE.KStateDown
import HandS.ForMost
import HandS.Codes
import HandS.Defaults
import HandS.Flow
import HandS.Wide
import HandS.IsInst
import HandS.Star
import HandS.Zip
import HandS.Deep
import HandS.DictTup
import HandS.DictComp
import HandS.TupLen
import HandS.TupSets
import HandS.Walk
import HandS.Conv
import HandS.Style
import HandS.More
import HandS.TupAny
import HandS.Rev
import KE.KDictZip
import KE.GoesEnum
import KE.KDictItemsList
import HandS.RepeatKit
import KE.DataMinMax
import KE.KIndexOf
import HandS.Base
import HandS.Call
import HandS.Ends
import HandS.Words
import HandS.WordsExc
import HandS.Head0
import HandS.Head1
import HandS.Head2
import HandS.HeadEnd
import HandS.HeadHook1
import HandS.HeadHook2
import PySem.Challenge.RW_baysout_k40_whole_fields_of_changed_fenc
set_option Elab.async false
set_option linter.all false
set_option maxRecDepth 100000
set_option maxHeartbeats 4000000
namespace Bay
abbrev Pt := Int × Int
def cr (a b : Pt) : Int := a.1 * b.2 - a.2 * b.1
def dt (a b : Pt) : Int := a.1 * b.1 + a.2 * b.2
def way (a b : Pt) : Pt := (b.1 - a.1, b.2 - a.2)
def up (d : Pt) : Bool := decide (d.2 > 0) || (decide (d.2 = 0) && decide (d.1 > 0))
def ahead (a b : Pt) : Bool := if up a != up b then up a else decide (cr a b > 0)
def pe (a b : Pt) : Int := if cr a b > 0 then (if ahead b a then 1 else 0) else if cr a b < 0 then -(if ahead a b then 1 else 0) else 0
def u01 (b : Bool) : Int := if b then 1 else 0

theorem pos_of_mul {a c : Int} (h : 0 < a) (h2 : 0 < a * c) : 0 < c := by
  rcases Int.lt_or_le 0 c with h | h
  · exact h
  · have := Int.mul_nonpos_of_nonneg_of_nonpos (Int.le_of_lt ‹0 < a›) h
    omega
theorem nonpos_of_mul {a c : Int} (h : a < 0) (h2 : 0 ≤ a * c) : c ≤ 0 := by
  rcases Int.lt_or_le 0 c with h3 | h3
  · have := Int.mul_neg_of_neg_of_pos h h3
    omega
  · exact h3

theorem pe_eq (a b : Pt) : pe a b = if cr a b > 0 then (if up b && !up a then 1 else 0) else if cr a b < 0 then (if up a && !up b then -1 else 0) else 0 := by
  unfold pe ahead
  have h : cr b a = - cr a b := by unfold cr; grind
  rw [h]
  cases up a <;> cases up b <;> (split <;> (try split) <;> simp_all <;> omega)

theorem up_cases (d : Pt) : (up d = true ∧ (0 < d.2 ∨ (d.2 = 0 ∧ 0 < d.1))) ∨ (up d = false ∧ (d.2 < 0 ∨ (d.2 = 0 ∧ d.1 ≤ 0))) := by
  unfold up
  rcases Int.lt_trichotomy d.2 0 with h | h | h
  · right; simp; omega
  · rcases Int.lt_or_le 0 d.1 with h2 | h2
    · left; simp; omega
    · right; simp; omega
  · left; simp; omega

/-- a primitive of pe on an open half plane -/
def psi (f : Pt) (g : Pt) : Int := if f.1 > 0 then u01 (up g) else 0
theorem lem_a {f u v : Pt} (hf : 0 < f.1) (hu : 0 < dt f u) (hv : 0 < dt f v) (cu : u.2 < 0 ∨ (u.2 = 0 ∧ u.1 ≤ 0)) (cv : 0 ≤ v.2) : 0 < cr u v := by
  have key : f.1 * cr u v = dt f u * v.2 - u.2 * dt f v := by unfold cr dt; grind
  have hu2 : u.2 < 0 := by
    rcases cu with h | ⟨h, h2⟩
    · exact h
    · exfalso
      unfold dt at hu
      rw [h] at hu
      have := Int.mul_nonpos_of_nonneg_of_nonpos (Int.le_of_lt hf) h2
      omega
  have h1 := Int.mul_neg_of_neg_of_pos hu2 hv
  have h2 := Int.mul_nonneg (Int.le_of_lt hu) cv
  have h3 : 0 < f.1 * (cr u v) := by omega
  exact pos_of_mul hf h3
theorem lem_b {f u v : Pt} (hf : ¬ 0 < f.1) (hu : 0 < dt f u) (hv : 0 < dt f v) (cu : u.2 ≤ 0) (cv : 0 ≤ v.2) : cr u v ≤ 0 := by
  have key : f.1 * cr u v = dt f u * v.2 - u.2 * dt f v := by unfold cr dt; grind
  rcases Int.lt_or_le f.1 0 with h | h
  · have h1 := Int.mul_nonpos_of_nonpos_of_nonneg cu (Int.le_of_lt hv)
    have h2 := Int.mul_nonneg (Int.le_of_lt hu) cv
    have h3 : 0 ≤ f.1 * (cr u v) := by omega
    exact nonpos_of_mul h h3
  · have h0 : f.1 = 0 := by omega
    exfalso
    unfold dt at hu hv
    rw [h0, Int.zero_mul, Int.zero_add] at hu hv
    rcases Int.lt_trichotomy f.2 0 with g | g | g
    · have := Int.mul_nonpos_of_nonpos_of_nonneg (Int.le_of_lt g) cv
      omega
    · rw [g] at hu; omega
    · have := Int.mul_nonpos_of_nonneg_of_nonpos (Int.le_of_lt g) cu
      omega
theorem cr_anti (a b : Pt) : cr b a = - cr a b := by unfold cr; grind
theorem pe_psi {f u v : Pt} (hu : 0 < dt f u) (hv : 0 < dt f v) : pe u v = psi f v - psi f u := by
  rw [pe_eq]
  unfold psi
  have an := cr_anti u v
  rcases up_cases u with ⟨eu, cu⟩ | ⟨eu, cu⟩ <;> rcases up_cases v with ⟨ev, cv⟩ | ⟨ev, cv⟩ <;> rw [eu, ev] <;> by_cases hf : 0 < f.1 <;> simp [u01, hf]
  · have := lem_a hf hv hu cv (by omega)
    split <;> omega
  · have := lem_b hf hv hu (by omega) (by omega)
    omega
  · have := lem_a hf hu hv cu (by omega)
    simp [this]
  · have := lem_b hf hu hv (by omega) (by omega)
    omega

/-- two stretches with a line strictly between them -/
def Sep (a b c d : Pt) : Prop := ∃ f : Pt, dt f a < dt f c ∧ dt f a < dt f d ∧ dt f b < dt f c ∧ dt f b < dt f d
theorem dt_way (f a b : Pt) : dt f (way a b) = dt f b - dt f a := by unfold dt way; grind
theorem cell {a b c d : Pt} (h : Sep a b c d) : pe (way a c) (way a d) + pe (way a d) (way b d) = pe (way a c) (way b c) + pe (way b c) (way b d) := by
  obtain ⟨f, h1, h2, h3, h4⟩ := h
  rw [pe_psi (f := f) (by rw [dt_way]; omega) (by rw [dt_way]; omega), pe_psi (f := f) (by rw [dt_way]; omega) (by rw [dt_way]; omega), pe_psi (f := f) (by rw [dt_way]; omega) (by rw [dt_way]; omega), pe_psi (f := f) (by rw [dt_way]; omega) (by rw [dt_way]; omega)]
  omega
/-- a side may follow another -/
def goesOn (a b : Pt) : Prop := cr a b ≠ 0 ∨ 0 < dt a b
def addP (a b : Pt) : Pt := (a.1 + b.1, a.2 + b.2)
theorem sq_pos {u : Pt} (h : u ≠ (0, 0)) : 0 < dt u u := by
  unfold dt
  obtain ⟨x, y⟩ := u
  show 0 < x * x + y * y
  have h1 : x ≠ 0 ∨ y ≠ 0 := by
    rcases Int.lt_trichotomy x 0 with g | g | g
    · left; omega
    · right; intro e; exact h (by rw [g, e])
    · left; omega
  have sq : ∀ z : Int, 0 ≤ z * z := fun z => by
    rcases Int.le_total 0 z with g | g
    · exact Int.mul_nonneg g g
    · exact Int.mul_nonneg_of_nonpos_of_nonpos g g
  have sp : ∀ z : Int, z ≠ 0 → 0 < z * z := fun z hz => by
    rcases Int.lt_or_gt_of_ne hz with g | g
    · exact Int.mul_pos_of_neg_of_neg g g
    · exact Int.mul_pos g g
  rcases h1 with g | g
  · have := sp x g; have := sq y; omega
  · have := sp y g; have := sq x; omega
theorem half {u t : Pt} (hu : u ≠ (0, 0)) (h : goesOn u t) : ∃ f : Pt, 0 < dt f u ∧ 0 < dt f t := by
  by_cases c : cr u t = 0
  · rcases h with h | h
    · exact absurd c h
    · exact ⟨u, sq_pos hu, h⟩
  · rcases Int.lt_or_gt_of_ne c with g | g
    · refine ⟨(-(t.2 - u.2), -(u.1 - t.1)), ?_, ?_⟩ <;> (unfold dt cr at *; simp only; grind)
    · refine ⟨(t.2 - u.2, u.1 - t.1), ?_, ?_⟩ <;> (unfold dt cr at *; simp only; grind)
theorem tri {u t : Pt} (hu : u ≠ (0, 0)) (h : goesOn u t) : pe u (addP u t) + pe (addP u t) t = pe u t := by
  obtain ⟨f, h1, h2⟩ := half hu h
  have h3 : 0 < dt f (addP u t) := by
    have : dt f (addP u t) = dt f u + dt f t := by unfold dt addP; grind
    omega
  rw [pe_psi h1 h3, pe_psi h3 h2, pe_psi h1 h2]
  omega
/-! ## Simple polygons; the total turning -/
def pathE : List Pt → List (Pt × Pt)
  | a :: b :: t => (a, b) :: pathE (b :: t)
  | _ => []
def cyc : List Pt → List (Pt × Pt)
  | [] => []
  | x :: t => pathE (x :: t ++ [x])
def wayE (e : Pt × Pt) : Pt := way e.1 e.2
def Ok (e f : Pt × Pt) : Prop := (e.2 = f.1 → goesOn (wayE e) (wayE f)) ∧ (f.2 = e.1 → goesOn (wayE f) (wayE e)) ∧ (e.2 ≠ f.1 → f.2 ≠ e.1 → Sep e.1 e.2 f.1 f.2)
structure Simple (l : List Pt) : Prop where
  nd : l.Nodup
  len : 3 ≤ l.length
  ok : (cyc l).Pairwise Ok
def negP (a : Pt) : Pt := (-a.1, -a.2)
theorem dt_neg (f a : Pt) : dt (negP f) a = - dt f a := by unfold dt negP; grind
theorem Sep.symm {a b c d : Pt} (h : Sep a b c d) : Sep c d a b := by
  obtain ⟨f, h1, h2, h3, h4⟩ := h
  refine ⟨negP f, ?_, ?_, ?_, ?_⟩ <;> rw [dt_neg, dt_neg] <;> omega
theorem Ok.symm {e f : Pt × Pt} (h : Ok e f) : Ok f e := ⟨h.2.1, h.1, fun h1 h2 => (h.2.2 h2 h1).symm⟩
/-! ### lists of sides -/
theorem pathE_append (x : List Pt) (y : Pt) (z : List Pt) : pathE (x ++ y :: z) = pathE (x ++ [y]) ++ pathE (y :: z) := by
  induction x with
  | nil => rfl
  | cons a t ih =>
    cases t with
    | nil => rfl
    | cons b t => 
      show (a, b) :: pathE (b :: t ++ y :: z) = (a, b) :: (pathE (b :: t ++ [y]) ++ pathE (y :: z))
      rw [ih]
theorem pathE_mem_fst {e : Pt × Pt} : ∀ {l : List Pt} {z : Pt}, e ∈ pathE (l ++ [z]) → e.1 ∈ l
  | [], z, h => by cases h
  | [a], z, h => by
    rcases List.mem_cons.mp h with h | h
    · rw [h]; exact List.mem_cons_self ..
    · cases h
  | a :: b :: t, z, h => by
    rcases List.mem_cons.mp (show e ∈ (a, b) :: pathE (b :: t ++ [z]) from h) with h | h
    · rw [h]; exact List.mem_cons_self ..
    · exact List.mem_cons_of_mem _ (pathE_mem_fst h)
theorem pathE_mem_snd {e : Pt × Pt} : ∀ {a : Pt} {l : List Pt}, e ∈ pathE (a :: l) → e.2 ∈ l
  | a, [], h => by cases h
  | a, b :: t, h => by
    rcases List.mem_cons.mp (show e ∈ (a, b) :: pathE (b :: t) from h) with h | h
    · rw [h]; exact List.mem_cons_self ..
    · exact List.mem_cons_of_mem _ (pathE_mem_snd h)
theorem pathE_sub {e : Pt × Pt} : ∀ {x : Pt} {t : List Pt} {z : Pt}, e ∈ pathE (x :: t) → e ∈ pathE (x :: t ++ [z])
  | x, [], z, he => by cases he
  | x, y :: t, z, he => by
    rcases List.mem_cons.mp (show e ∈ (x, y) :: pathE (y :: t) from he) with g | g
    · rw [g]; exact List.mem_cons_self ..
    · exact List.mem_cons_of_mem _ (pathE_sub (t := t) g)
theorem cyc_rot (a b : List Pt) : (cyc (a ++ b)).Perm (cyc (b ++ a)) := by
  cases a with
  | nil => rw [List.append_nil]; exact .refl _
  | cons x s =>
    cases b with
    | nil => rw [List.append_nil]; exact .refl _
    | cons y t =>
      show (pathE ((x :: s) ++ (y :: t) ++ [x])).Perm (pathE ((y :: t) ++ (x :: s) ++ [y]))
      rw [List.append_assoc, List.append_assoc, List.cons_append (a := y), pathE_append, List.cons_append (a := x) (as := s) (bs := [y]), pathE_append (y :: t) x]
      exact List.perm_append_comm
theorem Simple.rot {a b : List Pt} (h : Simple (a ++ b)) : Simple (b ++ a) := by
  refine ⟨?_, ?_, ?_⟩
  · exact (List.perm_append_comm.nodup_iff).mp h.nd
  · have := h.len
    rw [List.length_append] at *
    omega
  · exact (cyc_rot a b).pairwise h.ok Ok.symm
/-! ### sums of pe -/
def fan (p : Pt) : List Pt → Int
  | a :: b :: t => pe (way p a) (way p b) + fan p (b :: t)
  | _ => 0
def cof (z : Pt) : List Pt → Int
  | a :: b :: t => pe (way a z) (way b z) + cof z (b :: t)
  | _ => 0
def turn : List Pt → Int
  | a :: b :: c :: t => pe (way a b) (way b c) + turn (b :: c :: t)
  | _ => 0
def lastP : Pt → List Pt → Pt
  | a, [] => a
  | _, b :: t => lastP b t
theorem lastP_mem : ∀ (a : Pt) (t : List Pt), lastP a t ∈ a :: t
  | a, [] => List.mem_cons_self ..
  | a, b :: t => List.mem_cons_of_mem _ (lastP_mem b t)
theorem lastP_snoc : ∀ (a : Pt) (t : List Pt) (z : Pt), lastP a (t ++ [z]) = z
  | a, [], z => rfl
  | a, b :: t, z => lastP_snoc b t z
theorem fan_snoc (p : Pt) : ∀ (a : Pt) (t : List Pt) (z : Pt), fan p (a :: t ++ [z]) = fan p (a :: t) + pe (way p (lastP a t)) (way p z)
  | a, [], z => by simp [fan, lastP]
  | a, b :: t, z => by
    show pe (way p a) (way p b) + fan p (b :: t ++ [z]) = pe (way p a) (way p b) + fan p (b :: t) + pe (way p (lastP b t)) (way p z)
    rw [fan_snoc]
    omega
/-- the side p p' moves along, apart from a path -/
theorem seg (p p' : Pt) : ∀ (q : Pt) (t : List Pt), (∀ e ∈ pathE (q :: t), Sep p p' e.1 e.2) →
    fan p (q :: t) + pe (way p (lastP q t)) (way p' (lastP q t)) = pe (way p q) (way p' q) + fan p' (q :: t)
  | q, [], _ => by simp [fan, lastP]
  | q, r :: t, h => by
    have h1 := cell (h (q, r) (List.mem_cons_self ..))
    have h2 := seg p p' r t (fun e he => h e (List.mem_cons_of_mem _ he))
    simp only [fan, lastP] at *
    omega
theorem way_ne {a b : Pt} (h : a ≠ b) : way a b ≠ (0, 0) := fun e => h (by
  unfold way at e
  have h1 := congrArg Prod.fst e
  have h2 := congrArg Prod.snd e
  simp only at h1 h2
  exact Prod.ext (by omega) (by omega))
theorem add_way (a b c : Pt) : addP (way a b) (way b c) = way a c := by
  unfold addP way
  exact Prod.ext (by simp only; omega) (by simp only; omega)
theorem path_lem (z : Pt) : ∀ (v : Pt) (r : List Pt), (v :: r ++ [z]).Nodup → (pathE (v :: r ++ [z])).Pairwise Ok → turn (v :: r ++ [z]) = fan v (r ++ [z]) + cof z (v :: r)
  | v, [], _, _ => by simp [turn, fan, cof]
  | v, w :: r, hn, hp => by
    have hp2 : ((v, w) :: pathE (w :: r ++ [z])).Pairwise Ok := hp
    have hn2 : (w :: r ++ [z]).Nodup := (List.nodup_cons.mp hn).2
    obtain ⟨hq, hp3⟩ := List.pairwise_cons.mp hp2
    have ih := path_lem z w r hn2 hp3
    cases hx : r ++ [z] with
    | nil => simp at hx
    | cons x t =>
      have e1 : w :: r ++ [z] = w :: x :: t := congrArg (List.cons w) hx
      have e2 : v :: (w :: r) ++ [z] = v :: w :: x :: t := congrArg (fun u => v :: w :: u) hx
      have hz : lastP x t = z := by
        have : lastP w (x :: t) = z := by rw [← hx, lastP_snoc]
        exact this
      rw [e1] at ih hn2 hp3 hq
      rw [e2]
      have hv : ∀ e ∈ w :: x :: t, v ≠ e := fun e he h => (List.nodup_cons.mp hn).1 (by
        have : v ∈ w :: x :: t := h ▸ he
        rw [← e1] at this
        exact this)
      have hw : ∀ e ∈ x :: t, w ≠ e := fun e he h => (List.nodup_cons.mp hn2).1 (h ▸ he)
      have hs : ∀ e ∈ pathE (x :: t), Sep v w e.1 e.2 := fun e he => by
        have ho := hq e (List.mem_cons_of_mem _ he)
        have m2 := pathE_mem_snd he
        have m1 : e.1 ∈ x :: t := by
          have he2 : e ∈ pathE (r ++ [z]) := by rw [hx]; exact he
          have := pathE_mem_fst he2
          rw [← hx]
          exact List.mem_append_left _ this
        exact ho.2.2 (hw _ m1) (fun h => hv e.2 (List.mem_cons_of_mem _ (List.mem_cons_of_mem _ m2)) h.symm)
      have hg : goesOn (way v w) (way w x) := (hq (w, x) (List.mem_cons_self ..)).1 rfl
      have h1 := seg v w x t hs
      have h2 := tri (way_ne (hv w (List.mem_cons_self ..))) hg
      rw [add_way] at h2
      rw [hz] at h1
      rw [hx] at ih
      have e3 : fan v (w :: r ++ [z]) = pe (way v w) (way v x) + fan v (x :: t) := by rw [e1]; rfl
      have e4 : cof z (v :: w :: r) = pe (way v z) (way w z) + cof z (w :: r) := rfl
      have e5 : turn (v :: w :: x :: t) = pe (way v w) (way w x) + turn (w :: x :: t) := rfl
      rw [e3, e4, e5]
      omega
/-- the sum over the whole round, closed at z -/
theorem hopf {z w u x : Pt} {rest t : List Pt} (hr : rest = x :: t) (hu : u = lastP x t) (h : Simple (z :: w :: rest)) :
    turn (z :: w :: rest ++ [z]) + pe (way u z) (way z w) = fan z (w :: rest) + pe (way z u) (way w z) + cof z (w :: rest) + pe (way u z) (way z w) := by
  subst hr
  have hn := h.nd
  have hp : ((z, w) :: pathE (w :: x :: t ++ [z])).Pairwise Ok := h.ok
  obtain ⟨hq, hp3⟩ := List.pairwise_cons.mp hp
  have hz : ∀ e ∈ w :: x :: t, z ≠ e := fun e he g => (List.nodup_cons.mp hn).1 (g ▸ he)
  have hn2 := (List.nodup_cons.mp hn).2
  have hw : ∀ e ∈ x :: t, w ≠ e := fun e he g => (List.nodup_cons.mp hn2).1 (g ▸ he)
  have hn3 : (w :: (x :: t) ++ [z]).Nodup := (List.perm_append_comm (l₁ := [z]) (l₂ := w :: x :: t)).nodup_iff.mp hn
  have ih := path_lem z w (x :: t) hn3 hp3
  have hsub : ∀ e ∈ pathE (x :: t), e ∈ pathE (w :: x :: t ++ [z]) := fun e he => by
    have : pathE (w :: x :: t ++ [z]) = (w, x) :: pathE (x :: t ++ [z]) := rfl
    rw [this]
    exact List.mem_cons_of_mem _ (pathE_sub he)
  have hs : ∀ e ∈ pathE (x :: t), Sep z w e.1 e.2 := fun e he => by
    have ho := hq e (hsub e he)
    have m2 := pathE_mem_snd he
    have m1 : e.1 ∈ x :: t := by
      have : e ∈ pathE (x :: t ++ [z]) := by
        have := hsub e he
        rcases List.mem_cons.mp (show e ∈ (w, x) :: pathE (x :: t ++ [z]) from this) with g | g
        · exfalso
          rw [g] at m2
          exact (List.nodup_cons.mp (List.nodup_cons.mp hn2).2).1 m2
        · exact g
      exact pathE_mem_fst this
    exact ho.2.2 (hw _ m1) (fun g => hz e.2 (List.mem_cons_of_mem _ (List.mem_cons_of_mem _ m2)) g.symm)
  have hg1 : goesOn (way z w) (way w x) := (hq (w, x) (List.mem_cons_self ..)).1 rfl
  have hue : u ∈ x :: t := hu ▸ lastP_mem x t
  have hlast : (u, z) ∈ pathE (w :: x :: t ++ [z]) := by
    have : ∀ (a : Pt) (s : List Pt), (lastP a s, z) ∈ pathE (a :: s ++ [z]) := by
      intro a s
      induction s generalizing a with
      | nil => exact List.mem_cons_self ..
      | cons b s ih => exact List.mem_cons_of_mem _ (ih b)
    have h2 := this w (x :: t)
    rw [hu]
    exact h2
  have hg2 : goesOn (way u z) (way z w) := (hq (u, z) hlast).2.1 rfl
  have h1 := seg z w x t hs
  have h2 := tri (way_ne (hz w (List.mem_cons_self ..))) hg1
  have hg3 : goesOn (way z u) (way w z) := by
    unfold goesOn cr dt way at *
    simp only at *
    grind
  have h3 := tri (way_ne (hz u (List.mem_cons_of_mem _ hue))) hg3
  have h4 : addP (way z u) (way w z) = way w u := by
    unfold addP way
    exact Prod.ext (by simp only; omega) (by simp only; omega)
  rw [add_way] at h2
  rw [h4] at h3
  have h5 := fan_snoc w x t z
  rw [← hu] at h1 h5
  have e1 : turn (z :: w :: x :: t ++ [z]) = pe (way z w) (way w x) + turn (w :: x :: t ++ [z]) := rfl
  have e2 : fan z (w :: x :: t) = pe (way z w) (way z x) + fan z (x :: t) := rfl
  have e3 : fan w (x :: t ++ [z]) = fan w (x :: t) + pe (way w u) (way w z) := h5
  have e4 : cof z (w :: x :: t) = cof z (w :: (x :: t)) := rfl
  rw [e1, ih, e2, e3]
  omega
/-! ### the total turning by sides -/
def peSum : List Pt → Int
  | a :: b :: t => pe a b + peSum (b :: t)
  | _ => 0
def totS : List Pt → Int
  | [] => 0
  | s :: t => peSum (s :: t ++ [s])
def sid (l : List Pt) : List Pt := (cyc l).map wayE
def tot (l : List Pt) : Int := totS (sid l)
theorem peSum_append (x : List Pt) (y : Pt) (z : List Pt) : peSum (x ++ y :: z) = peSum (x ++ [y]) + peSum (y :: z) := by
  induction x with
  | nil => simp [peSum]
  | cons a t ih =>
    cases t with
    | nil => simp [peSum]
    | cons b t =>
      show pe a b + peSum (b :: t ++ y :: z) = pe a b + peSum (b :: t ++ [y]) + peSum (y :: z)
      rw [ih]
      omega
theorem totS_rot (a b : List Pt) : totS (a ++ b) = totS (b ++ a) := by
  cases a with
  | nil => rw [List.append_nil]; rfl
  | cons x s =>
    cases b with
    | nil => rw [List.append_nil]; rfl
    | cons y t =>
      show peSum ((x :: s) ++ (y :: t) ++ [x]) = peSum ((y :: t) ++ (x :: s) ++ [y])
      rw [List.append_assoc, List.append_assoc, List.cons_append (a := y), peSum_append, List.cons_append (a := x) (as := s) (bs := [y]), peSum_append (y :: t) x]
      exact Int.add_comm _ _
theorem cyc_rot_eq (a b : List Pt) : ∃ p q, cyc (a ++ b) = p ++ q ∧ cyc (b ++ a) = q ++ p ∧ p.length = a.length ∧ q.length = b.length := by
  have len : ∀ (x : Pt) (s : List Pt) (y : Pt), (pathE (x :: s ++ [y])).length = (x :: s).length := by
    intro x s y
    induction s generalizing x with
    | nil => rfl
    | cons b s ih => exact congrArg Nat.succ (ih b)
  cases a with
  | nil => exact ⟨[], cyc b, rfl, by rw [List.append_nil, List.append_nil], rfl, by
      cases b with
      | nil => rfl
      | cons y t => exact len y t y⟩
  | cons x s =>
    cases b with
    | nil => exact ⟨cyc (x :: s), [], by rw [List.append_nil, List.append_nil], rfl, len x s x, rfl⟩
    | cons y t =>
      refine ⟨pathE (x :: s ++ [y]), pathE (y :: t ++ [x]), ?_, ?_, len x s y, len y t x⟩
      · show pathE ((x :: s) ++ (y :: t) ++ [x]) = _
        rw [List.append_assoc, List.cons_append (a := y), pathE_append]
      · show pathE ((y :: t) ++ (x :: s) ++ [y]) = _
        rw [List.append_assoc, List.cons_append (a := x) (as := s) (bs := [y]), pathE_append]
theorem tot_rot (a b : List Pt) : tot (a ++ b) = tot (b ++ a) := by
  obtain ⟨p, q, h1, h2, _⟩ := cyc_rot_eq a b
  unfold tot sid
  rw [h1, h2, List.map_append, List.map_append]
  exact totS_rot _ _
theorem turn_eq : ∀ (P : List Pt), turn P = peSum ((pathE P).map wayE)
  | [] => rfl
  | [_] => rfl
  | [_, _] => rfl
  | a :: b :: c :: t => by
    have := turn_eq (b :: c :: t)
    show pe (way a b) (way b c) + turn (b :: c :: t) = pe (way a b) (way b c) + peSum ((pathE (b :: c :: t)).map wayE)
    rw [this]
def lastP2 : Pt → Pt → List Pt → Pt
  | a, _, [] => a
  | _, b, c :: t => lastP2 b c t
theorem turn_snoc : ∀ (a b : Pt) (t : List Pt) (z : Pt), turn (a :: b :: t ++ [z]) = turn (a :: b :: t) + pe (way (lastP2 a b t) (lastP b t)) (way (lastP b t) z)
  | a, b, [], z => by simp [turn, lastP2, lastP]
  | a, b, c :: t, z => by
    show pe (way a b) (way b c) + turn (b :: c :: t ++ [z]) = pe (way a b) (way b c) + turn (b :: c :: t) + _
    rw [turn_snoc b c t z]
    show _ = pe (way a b) (way b c) + turn (b :: c :: t) + pe (way (lastP2 b c t) (lastP c t)) (way (lastP c t) z)
    omega
theorem lastP2_snoc : ∀ (a b : Pt) (t : List Pt) (z : Pt), lastP2 a b (t ++ [z]) = lastP b t
  | a, b, [], z => rfl
  | a, b, c :: t, z => lastP2_snoc b c t z
theorem tot_eq (z w : Pt) (r : List Pt) : tot (z :: w :: r) = turn (z :: w :: r ++ [z]) + pe (way (lastP w r) z) (way z w) := by
  have h := turn_snoc z w (r ++ [z]) w
  rw [lastP2_snoc, lastP_snoc] at h
  have e : z :: w :: (r ++ [z]) = z :: w :: r ++ [z] := rfl
  rw [e] at h
  rw [← h, turn_eq]
  have : pathE (z :: w :: r ++ [z] ++ [w]) = cyc (z :: w :: r) ++ [(z, w)] := by
    have e2 : z :: w :: r ++ [z] ++ [w] = (z :: w :: r) ++ z :: [w] := by simp
    rw [e2, pathE_append]
    rfl
  rw [this, List.map_append]
  rfl
theorem hopf2 {z w : Pt} {r : List Pt} (h : Simple (z :: w :: r)) :
    tot (z :: w :: r) = fan z (w :: r) + pe (way z (lastP w r)) (way w z) + cof z (w :: r) + pe (way (lastP w r) z) (way z w) := by
  cases r with
  | nil => have := h.len; simp at this
  | cons x t =>
    rw [tot_eq]
    exact hopf rfl rfl h
/-! ### the lowest corner -/
def lowLe (a b : Pt) : Prop := a.2 < b.2 ∨ (a.2 = b.2 ∧ a.1 ≤ b.1)
theorem lowest : ∀ (x : Pt) (t : List Pt), ∃ (a : List Pt) (z : Pt) (b : List Pt), x :: t = a ++ z :: b ∧ ∀ v ∈ x :: t, lowLe z v
  | x, [] => ⟨[], x, [], rfl, fun v hv => by
    rcases List.mem_cons.mp hv with h | h
    · rw [h]; exact .inr ⟨rfl, Int.le_refl _⟩
    · cases h⟩
  | x, y :: t => by
    obtain ⟨a, z, b, e, h⟩ := lowest y t
    by_cases c : lowLe x z
    · refine ⟨[], x, y :: t, rfl, fun v hv => ?_⟩
      rcases List.mem_cons.mp hv with g | g
      · rw [g]; exact .inr ⟨rfl, Int.le_refl _⟩
      · have := h v g
        unfold lowLe at *
        omega
    · refine ⟨x :: a, z, b, by rw [e]; rfl, fun v hv => ?_⟩
      rcases List.mem_cons.mp hv with g | g
      · rw [g]
        unfold lowLe at *
        omega
      · exact h v g
theorem up_way {z v : Pt} (h : lowLe z v) (hn : z ≠ v) : up (way z v) = true ∧ up (way v z) = false := by
  have hn2 : z.1 ≠ v.1 ∨ z.2 ≠ v.2 := by
    by_cases c : z.1 = v.1
    · right; intro c2; exact hn (Prod.ext c c2)
    · left; exact c
  unfold lowLe at h
  unfold up way
  simp
  omega
theorem fan_up (z : Pt) : ∀ (l : List Pt), (∀ v ∈ l, up (way z v) = true) → fan z l = 0
  | [], _ => rfl
  | [_], _ => rfl
  | a :: b :: t, h => by
    have h1 := fan_up z (b :: t) fun v hv => h v (List.mem_cons_of_mem _ hv)
    have ha := h a (List.mem_cons_self ..)
    have hb := h b (List.mem_cons_of_mem _ (List.mem_cons_self ..))
    simp only [fan]
    rw [h1, pe_eq, ha, hb]
    simp
theorem cof_up (z : Pt) : ∀ (l : List Pt), (∀ v ∈ l, up (way v z) = false) → cof z l = 0
  | [], _ => rfl
  | [_], _ => rfl
  | a :: b :: t, h => by
    have h1 := cof_up z (b :: t) fun v hv => h v (List.mem_cons_of_mem _ hv)
    have ha := h a (List.mem_cons_self ..)
    have hb := h b (List.mem_cons_of_mem _ (List.mem_cons_self ..))
    simp only [cof]
    rw [h1, pe_eq, ha, hb]
    simp
theorem last_edge : ∀ (a : Pt) (s : List Pt) (z : Pt), (lastP a s, z) ∈ pathE (a :: s ++ [z])
  | a, [], z => List.mem_cons_self ..
  | a, b :: s, z => List.mem_cons_of_mem _ (last_edge b s z)
theorem closing {z w : Pt} {r : List Pt} (h : Simple (z :: w :: r)) : goesOn (way (lastP w r) z) (way z w) := by
  have hp : ((z, w) :: pathE (w :: r ++ [z])).Pairwise Ok := h.ok
  exact ((List.pairwise_cons.mp hp).1 _ (last_edge w r z)).2.1 rfl
theorem tot_pm {l : List Pt} (h : Simple l) : tot l = 1 ∨ tot l = -1 := by
  cases l with
  | nil => have := h.len; simp at this
  | cons x0 t0 =>
    obtain ⟨a, z, b, e, hm⟩ := lowest x0 t0
    rw [e] at h hm
    rw [e, tot_rot]
    have h2 := h.rot
    have hm2 : ∀ v ∈ z :: b ++ a, lowLe z v := fun v hv => hm v (by
      rcases List.mem_append.mp hv with g | g
      · exact List.mem_append_right _ g
      · exact List.mem_append_left _ g)
    cases q : b ++ a with
    | nil =>
      have hl := h2.len
      have : z :: b ++ a = [z] := congrArg (List.cons z) q
      rw [this] at hl
      simp at hl
    | cons w r =>
      have e2 : z :: b ++ a = z :: w :: r := congrArg (List.cons z) q
      rw [e2] at h2 hm2 ⊢
      have hnd := (List.nodup_cons.mp h2.nd).1
      have hup : ∀ v ∈ w :: r, up (way z v) = true ∧ up (way v z) = false := fun v hv =>
        up_way (hm2 v (List.mem_cons_of_mem _ hv)) (fun g => hnd (g ▸ hv))
      have hc := closing h2
      rw [hopf2 h2, fan_up z _ fun v hv => (hup v hv).1, cof_up z _ fun v hv => (hup v hv).2]
      obtain ⟨u1, u2⟩ := hup _ (lastP_mem w r)
      obtain ⟨w1, w2⟩ := hup w (List.mem_cons_self ..)
      generalize lastP w r = u at *
      rw [pe_eq, pe_eq, u1, u2, w1, w2]
      have c1 : cr (way z u) (way w z) = cr (way z w) (way z u) := by unfold cr way; grind
      have c2 : cr (way u z) (way z w) = cr (way z w) (way z u) := by unfold cr way; grind
      rw [c1, c2]
      rcases Int.lt_trichotomy (cr (way z w) (way z u)) 0 with g | g | g
      · right; simp [g]; omega
      · exfalso
        rcases hc with k | k
        · rw [c2] at k; exact k g
        · have hu3 := up_cases (way z u)
          have hw3 := up_cases (way z w)
          rw [u1] at hu3
          rw [w1] at hw3
          simp at hu3 hw3
          unfold cr dt way at *
          simp only at *
          generalize w.1 - z.1 = p at *
          generalize w.2 - z.2 = q at *
          have e1 : z.1 - u.1 = -(u.1 - z.1) := by omega
          have e2 : z.2 - u.2 = -(u.2 - z.2) := by omega
          rw [e1, e2] at k
          generalize u.1 - z.1 = m at *
          generalize u.2 - z.2 = n at *
          have k2 : p * m + q * n < 0 := by grind
          have g2 : p * n = q * m := by omega
          rcases hw3 with hq | ⟨hq, hp⟩
          · have hn : 0 ≤ n := by omega
            have s1 : 0 ≤ q * q * n := Int.mul_nonneg (Int.mul_nonneg (by omega) (by omega)) hn
            have s2 : q * (p * m + q * n) < 0 := Int.mul_neg_of_pos_of_neg hq k2
            have s3 : q * (p * m + q * n) = p * (p * n) + q * q * n := by rw [g2]; grind
            have s4 : 0 ≤ p * p * n := Int.mul_nonneg (by
              rcases Int.le_total 0 p with y | y
              · exact Int.mul_nonneg y y
              · exact Int.mul_nonneg_of_nonpos_of_nonpos y y) hn
            have s5 : p * (p * n) = p * p * n := by grind
            omega
          · rw [hq] at k2 g2
            have hn : p * n = 0 := by omega
            have hn2 : n = 0 := by
              rcases Int.mul_eq_zero.mp hn with y | y
              · omega
              · exact y
            have hm : 0 < m := by omega
            have := Int.mul_pos hp hm
            omega
      · left; simp [g]
/-! ## A corner put on a side -/
def Btw (a m b : Pt) : Prop := ∃ p q : Int, 0 < p ∧ 0 < q ∧ p * (m.1 - a.1) = q * (b.1 - m.1) ∧ p * (m.2 - a.2) = q * (b.2 - m.2)
theorem Btw.dt {a m b : Pt} (f : Pt) (h : Btw a m b) : ∃ p q : Int, 0 < p ∧ 0 < q ∧ p * (dt f m - dt f a) = q * (dt f b - dt f m) := by
  obtain ⟨p, q, hp, hq, h1, h2⟩ := h
  refine ⟨p, q, hp, hq, ?_⟩
  unfold Bay.dt
  grind
theorem Btw.lt {a m b : Pt} {f : Pt} {r : Int} (h : Btw a m b) (ha : Bay.dt f a < r) (hb : Bay.dt f b < r) : Bay.dt f m < r := by
  obtain ⟨p, q, hp, hq, h1⟩ := h.dt f
  rcases Int.lt_or_le (Bay.dt f m) r with g | g
  · exact g
  · have h2 := Int.mul_pos hp (show 0 < Bay.dt f m - Bay.dt f a by omega)
    have h3 := Int.mul_neg_of_pos_of_neg hq (show Bay.dt f b - Bay.dt f m < 0 by omega)
    omega
theorem Btw.gt {a m b : Pt} {f : Pt} {r : Int} (h : Btw a m b) (ha : r < Bay.dt f a) (hb : r < Bay.dt f b) : r < Bay.dt f m := by
  obtain ⟨p, q, hp, hq, h1⟩ := h.dt f
  rcases Int.lt_or_le r (Bay.dt f m) with g | g
  · exact g
  · have h2 := Int.mul_neg_of_pos_of_neg hp (show Bay.dt f m - Bay.dt f a < 0 by omega)
    have h3 := Int.mul_pos hq (show 0 < Bay.dt f b - Bay.dt f m by omega)
    omega
theorem Btw.mono {a m b : Pt} {f : Pt} (h : Btw a m b) (hab : Bay.dt f a < Bay.dt f b) : Bay.dt f a < Bay.dt f m ∧ Bay.dt f m < Bay.dt f b := by
  obtain ⟨p, q, hp, hq, h1⟩ := h.dt f
  constructor
  · rcases Int.lt_or_le (Bay.dt f a) (Bay.dt f m) with g | g
    · exact g
    · have h2 := Int.mul_nonpos_of_nonneg_of_nonpos (Int.le_of_lt hp) (show Bay.dt f m - Bay.dt f a ≤ 0 by omega)
      have h3 := Int.mul_pos hq (show 0 < Bay.dt f b - Bay.dt f m by omega)
      omega
  · rcases Int.lt_or_le (Bay.dt f m) (Bay.dt f b) with g | g
    · exact g
    · have h2 := Int.mul_pos hp (show 0 < Bay.dt f m - Bay.dt f a by omega)
      have h3 := Int.mul_nonpos_of_nonneg_of_nonpos (Int.le_of_lt hq) (show Bay.dt f b - Bay.dt f m ≤ 0 by omega)
      omega
/-- the two parts of the side are positive shares of it -/
theorem Btw.parts {a m b : Pt} (h : Btw a m b) : ∃ p q : Int, 0 < p ∧ 0 < q ∧ ((p + q) * (way a m).1 = q * (way a b).1 ∧ (p + q) * (way a m).2 = q * (way a b).2) ∧ ((p + q) * (way m b).1 = p * (way a b).1 ∧ (p + q) * (way m b).2 = p * (way a b).2) := by
  obtain ⟨p, q, hp, hq, h1, h2⟩ := h
  refine ⟨p, q, hp, hq, ⟨?_, ?_⟩, ?_, ?_⟩ <;> (unfold way; simp only; grind)
/-- positive multiples point alike -/
def Alike (u v : Pt) : Prop := ∃ p q : Int, 0 < p ∧ 0 < q ∧ p * u.1 = q * v.1 ∧ p * u.2 = q * v.2
theorem Alike.symm {u v : Pt} (h : Alike u v) : Alike v u := by
  obtain ⟨p, q, hp, hq, h1, h2⟩ := h
  exact ⟨q, p, hq, hp, h1.symm, h2.symm⟩
theorem Alike.cr {u v w : Pt} (h : Alike u v) : ∃ p q : Int, 0 < p ∧ 0 < q ∧ p * Bay.cr u w = q * Bay.cr v w ∧ p * Bay.dt u w = q * Bay.dt v w := by
  obtain ⟨p, q, hp, hq, h1, h2⟩ := h
  refine ⟨p, q, hp, hq, ?_, ?_⟩ <;> (simp only [Bay.cr, Bay.dt]; grind)
theorem pos_iff {p q x y : Int} (hp : 0 < p) (hq : 0 < q) (h : p * x = q * y) : (0 < x ↔ 0 < y) ∧ (x < 0 ↔ y < 0) := by
  rcases Int.lt_trichotomy x 0 with g | g | g <;> rcases Int.lt_trichotomy y 0 with k | k | k
  all_goals first
    | omega
    | (exfalso
       first
       | (have h1 := Int.mul_neg_of_pos_of_neg hp g
          have h2 := Int.mul_pos hq k
          omega)
       | (have h1 := Int.mul_neg_of_pos_of_neg hp g
          rw [k] at h
          omega)
       | (have h1 := Int.mul_pos hp g
          rw [k] at h
          omega)
       | (have h1 := Int.mul_pos hp g
          have h2 := Int.mul_neg_of_pos_of_neg hq k
          omega)
       | (have h1 := Int.mul_pos hq k
          rw [g] at h
          omega)
       | (have h1 := Int.mul_neg_of_pos_of_neg hq k
          rw [g] at h
          omega))
theorem Alike.up {u v : Pt} (h : Alike u v) : Bay.up u = Bay.up v := by
  obtain ⟨p, q, hp, hq, h1, h2⟩ := h
  have a1 := pos_iff hp hq h1
  have a2 := pos_iff hp hq h2
  unfold Bay.up
  rw [Bool.eq_iff_iff]
  simp
  omega
theorem Alike.crs {u v : Pt} (h : Alike u v) (w : Pt) : (0 < Bay.cr u w ↔ 0 < Bay.cr v w) ∧ (Bay.cr u w < 0 ↔ Bay.cr v w < 0) ∧ (0 < Bay.dt u w ↔ 0 < Bay.dt v w) := by
  obtain ⟨p, q, hp, hq, h1, h2⟩ := h.cr (w := w)
  have a1 := pos_iff hp hq h1
  have a2 := pos_iff hp hq h2
  exact ⟨a1.1, a1.2, a2.1⟩
theorem dt_comm (a b : Pt) : dt a b = dt b a := by unfold dt; grind
theorem Alike.goesOn {u v w : Pt} (h : Alike u v) : (Bay.goesOn u w ↔ Bay.goesOn v w) ∧ (Bay.goesOn w u ↔ Bay.goesOn w v) := by
  have a := h.crs w
  have b1 := cr_anti u w
  have b2 := cr_anti v w
  unfold Bay.goesOn
  rw [dt_comm w u, dt_comm w v]
  omega
theorem Alike.pe {u v : Pt} (h : Alike u v) (w : Pt) : Bay.pe u w = Bay.pe v w ∧ Bay.pe w u = Bay.pe w v := by
  have a := h.crs w
  have b1 := cr_anti u w
  have b2 := cr_anti v w
  rw [pe_eq, pe_eq, pe_eq, pe_eq, h.up, b1, b2]
  constructor
  · by_cases c1 : Bay.cr u w > 0
    · have : Bay.cr v w > 0 := a.1.mp c1
      simp [c1, this]
    · have : ¬ Bay.cr v w > 0 := fun k => c1 (a.1.mpr k)
      by_cases c2 : Bay.cr u w < 0
      · have k := a.2.1.mp c2
        simp [c1, c2, this, k]
      · have k : ¬ Bay.cr v w < 0 := fun k => c2 (a.2.1.mpr k)
        simp [c1, c2, this, k]
  · by_cases c1 : -Bay.cr u w > 0
    · have : -Bay.cr v w > 0 := by omega
      simp only [c1, this, if_true]
    · have : ¬ -Bay.cr v w > 0 := by omega
      by_cases c2 : -Bay.cr u w < 0
      · have k : -Bay.cr v w < 0 := by omega
        simp only [c1, c2, this, k, if_true, if_false]
      · have k : ¬ -Bay.cr v w < 0 := by omega
        simp only [c1, c2, this, k, if_false]
/-- both alike a third one -/
theorem Alike.trans2 {u v w : Pt} (h : Alike u w) (k : Alike v w) : Alike u v := by
  obtain ⟨p, q, hp, hq, h1, h2⟩ := h
  obtain ⟨r, s, hr, hs, k1, k2⟩ := k
  refine ⟨p * s, q * r, Int.mul_pos hp hs, Int.mul_pos hq hr, ?_, ?_⟩ <;> grind
theorem Btw.alike {a m b : Pt} (h : Btw a m b) : Alike (way a m) (way a b) ∧ Alike (way m b) (way a b) := by
  obtain ⟨p, q, hp, hq, ⟨h1, h2⟩, h3, h4⟩ := h.parts
  exact ⟨⟨p + q, q, by omega, hq, h1, h2⟩, ⟨p + q, p, by omega, hp, h3, h4⟩⟩
theorem pe_self_alike {u v : Pt} (h : Alike u v) : pe u v = 0 := by
  have : cr u v = 0 := by
    obtain ⟨p, q, hp, hq, h1, h2⟩ := h
    have e : p * cr u v = 0 := by unfold cr; grind
    rcases Int.mul_eq_zero.mp e with g | g
    · omega
    · exact g
  rw [pe_eq, this]
  simp
theorem cyc_fst {l : List Pt} {e : Pt × Pt} (h : e ∈ cyc l) : e.1 ∈ l := by
  cases l with
  | nil => cases h
  | cons x t => exact pathE_mem_fst h
theorem mem_fst_pathE {v : Pt} : ∀ {l : List Pt} {z : Pt}, v ∈ l → ∃ w, (v, w) ∈ pathE (l ++ [z])
  | [a], z, h => by
    rcases List.mem_cons.mp h with h | h
    · rw [h]; exact ⟨z, List.mem_cons_self ..⟩
    · cases h
  | a :: b :: t, z, h => by
    rcases List.mem_cons.mp h with h | h
    · rw [h]; exact ⟨b, List.mem_cons_self ..⟩
    · obtain ⟨w, hw⟩ := mem_fst_pathE (z := z) h
      exact ⟨w, List.mem_cons_of_mem _ hw⟩
theorem Simple.ins {a b m : Pt} {t : List Pt} (h : Simple (a :: b :: t)) (hm : Btw a m b) : Simple (a :: m :: b :: t) := by
  have hp : ((a, b) :: pathE (b :: t ++ [a])).Pairwise Ok := h.ok
  obtain ⟨hq, hp3⟩ := List.pairwise_cons.mp hp
  have hn := List.nodup_cons.mp h.nd
  have hn2 := List.nodup_cons.mp hn.2
  have hab : a ≠ b := fun e => hn.1 (e ▸ List.mem_cons_self ..)
  obtain ⟨al1, al2⟩ := hm.alike
  have hwab : way a b ≠ (0, 0) := way_ne hab
  have hma : m ≠ a := fun e => by
    obtain ⟨f, hf⟩ : ∃ f : Pt, 0 < dt f (way a b) := ⟨_, sq_pos hwab⟩
    rw [dt_way] at hf
    have := (hm.mono (f := f) (by omega)).1
    rw [e] at this
    omega
  have hmb : m ≠ b := fun e => by
    obtain ⟨f, hf⟩ : ∃ f : Pt, 0 < dt f (way a b) := ⟨_, sq_pos hwab⟩
    rw [dt_way] at hf
    have := (hm.mono (f := f) (by omega)).2
    rw [e] at this
    omega
  have hlen := h.len
  have hmt : ∀ v ∈ t, m ≠ v := fun v hv e => by
    obtain ⟨w, hw⟩ := mem_fst_pathE (z := a) (List.mem_cons_of_mem b hv)
    have ho := hq _ hw
    have hbv : b ≠ v := fun g => hn2.1 (g ▸ hv)
    by_cases c : w = a
    · have g := ho.2.1 c
      have g2 : goesOn (way v a) (way a b) := by rw [← c] at *; exact g
      obtain ⟨f, f1, f2⟩ := half (way_ne (a := v) (b := a) (fun z => hn.1 (z ▸ List.mem_cons_of_mem _ hv))) g2
      rw [dt_way] at f1 f2
      have := (hm.mono (f := f) (by omega)).1
      rw [e] at this
      omega
    · obtain ⟨f, f1, f2, f3, f4⟩ := ho.2.2 hbv c
      have := hm.lt f1 f3
      rw [e] at this
      exact Int.lt_irrefl _ this
  have hmn : m ∉ a :: b :: t := fun g => by
    rcases List.mem_cons.mp g with g | g
    · exact hma g
    · rcases List.mem_cons.mp g with g | g
      · exact hmb g
      · exact hmt m g rfl
  refine ⟨?_, by simp only [List.length_cons] at *; omega, ?_⟩
  · refine List.nodup_cons.mpr ⟨fun g => ?_, List.nodup_cons.mpr ⟨fun g => hmn (List.mem_cons_of_mem _ g), hn.2⟩⟩
    rcases List.mem_cons.mp g with g | g
    · exact hma g.symm
    · exact hn.1 g
  · show ((a, m) :: (m, b) :: pathE (b :: t ++ [a])).Pairwise Ok
    have sub1 : ∀ e ∈ pathE (b :: t ++ [a]), e.1 ∈ a :: b :: t := fun e he => List.mem_cons_of_mem _ (pathE_mem_fst he)
    have sub2 : ∀ e ∈ pathE (b :: t ++ [a]), e.2 ∈ t ++ [a] := fun e he => pathE_mem_snd he
    have sub3 : ∀ e ∈ pathE (b :: t ++ [a]), e.2 ∈ a :: b :: t := fun e he => by
      rcases List.mem_append.mp (sub2 e he) with g | g
      · exact List.mem_cons_of_mem _ (List.mem_cons_of_mem _ g)
      · rw [List.mem_singleton.mp g]; exact List.mem_cons_self ..
    have sub4 : ∀ e ∈ pathE (b :: t ++ [a]), e.1 ≠ a := fun e he g => hn.1 (g ▸ pathE_mem_fst he)
    have sub5 : ∀ e ∈ pathE (b :: t ++ [a]), e.2 ≠ b := fun e he g => by
      rcases List.mem_append.mp (sub2 e he) with k | k
      · exact hn2.1 (g ▸ k)
      · exact hab ((List.mem_singleton.mp k).symm.trans g)
    have both : ∀ e ∈ pathE (b :: t ++ [a]), ¬ (e.1 = b ∧ e.2 = a) := fun e he g => by
      cases t with
      | nil => simp at hlen
      | cons c t =>
        rcases List.mem_cons.mp (show e ∈ (b, c) :: pathE (c :: t ++ [a]) from he) with k | k
        · have : c = a := by have := g.2; rw [k] at this; exact this
          exact hn.1 (this ▸ List.mem_cons_of_mem _ (List.mem_cons_self ..))
        · exact hn2.1 (g.1 ▸ pathE_mem_fst k)
    refine List.pairwise_cons.mpr ⟨fun e he => ?_, List.pairwise_cons.mpr ⟨fun e he => ?_, hp3⟩⟩
    · rcases List.mem_cons.mp he with k | k
      · rw [k]
        refine ⟨fun _ => ?_, fun g => absurd g (by exact fun g => hab g.symm), fun g => absurd rfl g⟩
        show goesOn (way a m) (way m b)
        rw [al1.goesOn.1, al2.goesOn.2]
        exact .inr (sq_pos hwab)
      · have ho := hq e k
        refine ⟨fun g => absurd (show m = e.1 from g) (fun g => hmn (g ▸ sub1 e k)), fun g => ?_, fun _ g2 => ?_⟩
        · have := ho.2.1 g
          show goesOn (wayE e) (way a m)
          rw [al1.goesOn.2]
          exact this
        · by_cases c : b = e.1
          · obtain ⟨f, f1, f2⟩ := half hwab (ho.1 c)
            unfold wayE at f2
            rw [dt_way] at f1 f2
            rw [← c] at f2
            have := hm.mono (f := f) (by omega)
            refine ⟨f, ?_, ?_, ?_, ?_⟩ <;> simp only [← c] <;> omega
          · obtain ⟨f, f1, f2, f3, f4⟩ := ho.2.2 c g2
            exact ⟨f, f1, f2, hm.lt f1 f3, hm.lt f2 f4⟩
    · have ho := hq e he
      refine ⟨fun g => ?_, fun g => absurd (show e.2 = m from g) (fun g => hmn (g ▸ sub3 e he)), fun g1 _ => ?_⟩
      · have := ho.1 g
        show goesOn (way m b) (wayE e)
        rw [al2.goesOn.1]
        exact this
      · by_cases c : e.2 = a
        · have hea : e.1 ≠ e.2 := fun k => sub4 e he (k.trans c)
          obtain ⟨f, f1, f2⟩ := half (u := wayE e) (way_ne hea) (ho.2.1 c)
          unfold wayE at f1
          rw [dt_way] at f1
          have f2' : 0 < dt f b - dt f a := by rw [← dt_way]; exact f2
          rw [c] at f1
          have := hm.mono (f := f) (by omega)
          have : Sep e.1 e.2 m b := by rw [c]; refine ⟨f, ?_, ?_, ?_, ?_⟩ <;> omega
          exact this.symm
        · obtain ⟨f, f1, f2, f3, f4⟩ := ho.2.2 g1 c
          exact ⟨f, hm.lt f1 f3, hm.lt f2 f4, f3, f4⟩
theorem tot_ins {a b m : Pt} {t : List Pt} (hm : Btw a m b) : tot (a :: m :: b :: t) = tot (a :: b :: t) := by
  obtain ⟨al1, al2⟩ := hm.alike
  have e1 : sid (a :: m :: b :: t) = way a m :: way m b :: (pathE (b :: t ++ [a])).map wayE := rfl
  have e2 : sid (a :: b :: t) = way a b :: (pathE (b :: t ++ [a])).map wayE := rfl
  unfold tot
  rw [e1, e2]
  have hs : ∀ (x y : Pt) (L : List Pt), Alike x y → ∀ u, peSum (u :: L ++ [x]) = peSum (u :: L ++ [y]) := fun x y L al => by
    induction L with
    | nil => intro u; simp only [peSum, List.cons_append, List.nil_append]; rw [(al.pe u).2]
    | cons c L ih => intro u; simp only [peSum, List.cons_append] at *; rw [ih c]
  generalize (pathE (b :: t ++ [a])).map wayE = L
  show pe (way a m) (way m b) + peSum (way m b :: L ++ [way a m]) = peSum (way a b :: L ++ [way a b])
  rw [hs _ _ _ al1]
  have h0 : pe (way a m) (way m b) = 0 := by rw [(al1.pe _).1]; exact pe_self_alike al2.symm
  rw [h0]
  cases L with
  | nil => simp only [peSum, List.cons_append, List.nil_append]; rw [(al2.pe _).1]; omega
  | cons c L => simp only [peSum, List.cons_append]; rw [(al2.pe _).1]; omega
/-! ## Sums -/
def tsum {α : Type} (g : α → Int) : List α → Int
  | [] => 0
  | a :: t => g a + tsum g t
section
variable {α β : Type}
theorem tsum_append (g : α → Int) : ∀ a b : List α, tsum g (a ++ b) = tsum g a + tsum g b
  | [], b => by simp [tsum]
  | x :: a, b => by
    show g x + tsum g (a ++ b) = g x + tsum g a + tsum g b
    rw [tsum_append g a b]; omega
theorem tsum_perm (g : α → Int) {a b : List α} (h : a.Perm b) : tsum g a = tsum g b := by
  induction h with
  | nil => rfl
  | cons x _ ih => show g x + _ = g x + _; rw [ih]
  | swap x y l => show g y + (g x + _) = g x + (g y + _); omega
  | trans _ _ h1 h2 => rw [h1, h2]
theorem tsum_congr {g k : α → Int} : ∀ {l : List α}, (∀ a ∈ l, g a = k a) → tsum g l = tsum k l
  | [], _ => rfl
  | x :: l, h => by
    show g x + _ = k x + _
    rw [h x (List.mem_cons_self ..), tsum_congr fun a ha => h a (List.mem_cons_of_mem _ ha)]
theorem tsum_add (g k : α → Int) : ∀ l : List α, tsum (fun a => g a + k a) l = tsum g l + tsum k l
  | [] => rfl
  | x :: l => by
    have := tsum_add g k l
    simp only [tsum] at *
    omega
theorem tsum_mul (c : Int) (g : α → Int) : ∀ l : List α, tsum (fun a => c * g a) l = c * tsum g l
  | [] => by simp [tsum]
  | x :: l => by
    have := tsum_mul c g l
    simp only [tsum] at *
    rw [this, Int.mul_add]
theorem tsum_map (f : β → α) (g : α → Int) : ∀ l : List β, tsum g (l.map f) = tsum (fun b => g (f b)) l
  | [] => rfl
  | x :: l => by
    show g (f x) + tsum g (l.map f) = _
    rw [tsum_map f g l]; rfl
theorem tsum_zero {g : α → Int} : ∀ {l : List α}, (∀ a ∈ l, g a = 0) → tsum g l = 0
  | [], _ => rfl
  | x :: l, h => by
    show g x + _ = 0
    rw [h x (List.mem_cons_self ..), tsum_zero fun a ha => h a (List.mem_cons_of_mem _ ha)]; rfl
theorem tsum_nonneg {g : α → Int} : ∀ {l : List α}, (∀ a ∈ l, 0 ≤ g a) → 0 ≤ tsum g l
  | [], _ => Int.le_refl _
  | x :: l, h => by
    have h1 := h x (List.mem_cons_self ..)
    have h2 := tsum_nonneg fun a ha => h a (List.mem_cons_of_mem _ ha)
    show 0 ≤ g x + tsum g l
    omega
theorem tsum_pos {g : α → Int} {l : List α} (h : ∀ a ∈ l, 0 ≤ g a) {b : α} (hb : b ∈ l) (hg : 0 < g b) : 0 < tsum g l := by
  induction l with
  | nil => cases hb
  | cons x l ih =>
    have h1 := h x (List.mem_cons_self ..)
    have h2 := tsum_nonneg fun a ha => h a (List.mem_cons_of_mem _ ha)
    show 0 < g x + tsum g l
    rcases List.mem_cons.mp hb with e | e
    · rw [← e]; omega
    · have := ih (fun a ha => h a (List.mem_cons_of_mem _ ha)) e
      omega
theorem tsum_comm (g : α → β → Int) : ∀ (l : List α) (m : List β), tsum (fun a => tsum (g a) m) l = tsum (fun b => tsum (fun a => g a b) l) m
  | [], m => (tsum_zero (fun _ _ => rfl)).symm
  | x :: l, m => by
    show tsum (g x) m + tsum (fun a => tsum (g a) m) l = tsum (fun b => g x b + tsum (fun a => g a b) l) m
    rw [tsum_comm g l m, tsum_add]
theorem tsum_filter (g : α → Int) (p : α → Bool) : ∀ l : List α, (∀ a ∈ l, p a = false → g a = 0) → tsum g (l.filter p) = tsum g l
  | [], _ => rfl
  | x :: l, h => by
    have ih := tsum_filter g p l fun a ha => h a (List.mem_cons_of_mem _ ha)
    cases c : p x with
    | true => rw [List.filter_cons_of_pos c]; show g x + _ = g x + _; rw [ih]
    | false =>
      rw [List.filter_cons_of_neg (by rw [c]; exact Bool.false_ne_true), ih]
      show _ = g x + _
      rw [h x (List.mem_cons_self ..) c]; omega
end
/-- what is lost and won around is nothing -/
theorem tsum_path (g : Pt → Int) : ∀ (a : Pt) (t : List Pt), tsum (fun e : Pt × Pt => g e.2 - g e.1) (pathE (a :: t)) = g (lastP a t) - g a
  | a, [] => by simp [pathE, tsum, lastP]
  | a, b :: t => by
    have := tsum_path g b t
    show (g b - g a) + tsum _ (pathE (b :: t)) = g (lastP b t) - g a
    omega
theorem tsum_cyc (g : Pt → Int) (l : List Pt) : tsum (fun e : Pt × Pt => g e.2 - g e.1) (cyc l) = 0 := by
  cases l with
  | nil => rfl
  | cons x t =>
    show tsum _ (pathE (x :: (t ++ [x]))) = 0
    rw [tsum_path, lastP_snoc]; omega
/-! ## Crossings of a line, one beside another -/
theorem top_of {C : List (Int × Int)} (h : C ≠ []) : ∃ c C', C.Perm (c :: C') ∧ ∀ d ∈ C', d.2 ≤ c.2 := by
  induction C with
  | nil => exact absurd rfl h
  | cons x C ih =>
    cases C with
    | nil => exact ⟨x, [], .refl _, fun d hd => by cases hd⟩
    | cons y C =>
      obtain ⟨c, C', hp, hc⟩ := ih (List.cons_ne_nil _ _)
      rcases Int.lt_or_le x.2 c.2 with g | g
      · refine ⟨c, x :: C', (hp.cons x).trans (List.Perm.swap ..), fun d hd => ?_⟩
        rcases List.mem_cons.mp hd with k | k
        · rw [k]; omega
        · exact hc d k
      · refine ⟨x, c :: C', hp.cons x, fun d hd => ?_⟩
        rcases List.mem_cons.mp hd with k | k
        · rw [k]; exact g
        · have := hc d k; omega
def above (C : List (Int × Int)) (x : Int) : Int := tsum (fun c => if c.2 > x then c.1 else 0) C
theorem widths : ∀ (n : Nat) (C : List (Int × Int)), C.length ≤ n → (∀ c ∈ C, c.1 = 1 ∨ c.1 = -1) → C.Pairwise (fun a b => a.2 ≠ b.2) → (∀ c ∈ C, 2 * above C c.2 = 1 - c.1) → tsum (·.1) C = 0 →
    0 ≤ tsum (fun c => c.1 * c.2) C ∧ (C ≠ [] → 0 < tsum (fun c => c.1 * c.2) C)
  | 0, C, hl, _, _, _, _ => by
    have : C = [] := List.eq_nil_of_length_eq_zero (by omega)
    rw [this]
    exact ⟨Int.le_refl _, fun h => absurd rfl h⟩
  | n + 1, C, hl, hs, hd, hP, h0 => by
    by_cases hC : C = []
    · rw [hC]
      exact ⟨Int.le_refl _, fun h => absurd rfl h⟩
    suffices h : 0 < tsum (fun c => c.1 * c.2) C from ⟨Int.le_of_lt h, fun _ => h⟩
    obtain ⟨c, C1, hp, hc⟩ := top_of hC
    have symm : ∀ {a b : Int × Int}, a.2 ≠ b.2 → b.2 ≠ a.2 := fun h => h.symm
    have hd1 := List.pairwise_cons.mp (hp.pairwise hd symm)
    have hlt : ∀ d ∈ C1, d.2 < c.2 := fun d hd => by
      have := hc d hd
      have := hd1.1 d hd
      omega
    have hcC : c ∈ C := hp.symm.subset (List.mem_cons_self ..)
    have a1 : above C c.2 = 0 := by
      unfold above
      rw [tsum_perm _ hp]
      refine tsum_zero fun d hd => ?_
      rcases List.mem_cons.mp hd with k | k
      · rw [k]; simp
      · have := hlt d k
        rw [if_neg (by omega)]
    have c1 : c.1 = 1 := by have := hP c hcC; omega
    rw [tsum_perm _ hp] at h0
    have h0' : c.1 + tsum (·.1) C1 = 0 := h0
    by_cases hC1 : C1 = []
    · rw [hC1] at h0'
      simp only [tsum] at h0'
      omega
    obtain ⟨d, C2, hp2, hd2⟩ := top_of hC1
    have hd3 := List.pairwise_cons.mp (hp2.pairwise hd1.2 symm)
    have hlt2 : ∀ e ∈ C2, e.2 < d.2 := fun e he => by
      have := hd2 e he
      have := hd3.1 e he
      omega
    have hdC1 : d ∈ C1 := hp2.symm.subset (List.mem_cons_self ..)
    have hdC : d ∈ C := hp.symm.subset (List.mem_cons_of_mem _ hdC1)
    have hp3 : C.Perm (c :: d :: C2) := hp.trans (hp2.cons c)
    have hdc := hlt d hdC1
    have a2 : above C d.2 = 1 := by
      unfold above
      rw [tsum_perm _ hp3]
      show (if c.2 > d.2 then c.1 else 0) + ((if d.2 > d.2 then d.1 else 0) + tsum _ C2) = 1
      rw [if_pos (by omega), if_neg (by omega), c1, tsum_zero fun e he => ?_]
      · rfl
      · have := hlt2 e he
        rw [if_neg (by omega)]
    have d1 : d.1 = -1 := by have := hP d hdC; omega
    rw [tsum_perm _ hp2] at h0'
    have h0'' : c.1 + (d.1 + tsum (·.1) C2) = 0 := h0'
    have hlen := hp3.length_eq
    simp only [List.length_cons] at hlen
    have ih := widths n C2 (by omega) (fun e he => hs e (hp3.symm.subset (List.mem_cons_of_mem _ (List.mem_cons_of_mem _ he)))) hd3.2 (fun e he => by
      have := hP e (hp3.symm.subset (List.mem_cons_of_mem _ (List.mem_cons_of_mem _ he)))
      have e2 : above C e.2 = above C2 e.2 := by
        unfold above
        rw [tsum_perm _ hp3]
        show (if c.2 > e.2 then c.1 else 0) + ((if d.2 > e.2 then d.1 else 0) + tsum _ C2) = _
        have := hlt2 e he
        rw [if_pos (by omega), if_pos (by omega), c1, d1]
        omega
      rw [← e2]
      exact this) (by omega)
    rw [tsum_perm _ hp3]
    show 0 < c.1 * c.2 + (d.1 * d.2 + tsum _ C2)
    rw [c1, d1]
    have := ih.1
    omega
/-! ## The area -/
def areaL (l : List Pt) : Int := tsum (fun e : Pt × Pt => cr e.1 e.2) (cyc l)
/-- a side has a whole slope, by y -/
def Slp (e : Pt × Pt) : Prop := e.1.2 ≠ e.2.2 → ∃ k : Int, e.2.1 - e.1.1 = k * (e.2.2 - e.1.2)
def sg (h : Int) (e : Pt × Pt) : Int := if e.1.2 < h ∧ h < e.2.2 then 1 else if e.2.2 < h ∧ h < e.1.2 then -1 else 0
def xe (h : Int) (e : Pt × Pt) : Int := e.1.1 + (e.2.1 - e.1.1) / (e.2.2 - e.1.2) * (h - e.1.2)
theorem xe_eq {e : Pt × Pt} (hs : Slp e) (hn : e.1.2 ≠ e.2.2) : ∃ k : Int, e.2.1 - e.1.1 = k * (e.2.2 - e.1.2) ∧ ∀ h, xe h e = e.1.1 + k * (h - e.1.2) := by
  obtain ⟨k, hk⟩ := hs hn
  refine ⟨k, hk, fun h => ?_⟩
  unfold xe
  rw [hk, Int.mul_ediv_cancel _ (by omega)]
theorem sg_ne {h : Int} {e : Pt × Pt} (g : sg h e ≠ 0) : e.1.2 ≠ e.2.2 := by
  unfold sg at g
  split at g
  · omega
  · split at g
    · omega
    · exact absurd rfl g
theorem sg_pm {h : Int} {e : Pt × Pt} (g : sg h e ≠ 0) : sg h e = 1 ∨ sg h e = -1 := by
  unfold sg at *
  split
  · exact .inl rfl
  · rename_i c
    rw [if_neg c] at g
    split
    · exact .inr rfl
    · rename_i c2
      rw [if_neg c2] at g
      exact absurd rfl g
theorem fan_eq (m : Pt) (e : Pt × Pt) (hs : Slp e) (h1 : e.1.2 ≠ m.2) (h2 : e.2.2 ≠ m.2) : pe (way m e.1) (way m e.2) = if xe m.2 e > m.1 then sg m.2 e else 0 := by
  obtain ⟨⟨cx, cy⟩, ⟨dx, dy⟩⟩ := e
  obtain ⟨mx, h⟩ := m
  simp only at h1 h2
  have upc : up (way (mx, h) (cx, cy)) = decide (h < cy) := by
    unfold up way; rw [Bool.eq_iff_iff]; simp; omega
  have upd : up (way (mx, h) (dx, dy)) = decide (h < dy) := by
    unfold up way; rw [Bool.eq_iff_iff]; simp; omega
  rw [pe_eq, upc, upd]
  by_cases hy : cy = dy
  · subst hy
    have : sg h ((cx, cy), (dx, cy)) = 0 := by unfold sg; simp only; rw [if_neg (by omega), if_neg (by omega)]
    rw [this]
    by_cases c : h < cy <;> simp [c]
  · obtain ⟨k, hk, hx⟩ := xe_eq hs hy
    simp only at hk
    have hx2 := hx h
    simp only at hx2
    rw [hx2]
    have hc : cr (way (mx, h) (cx, cy)) (way (mx, h) (dx, dy)) = (dy - cy) * (cx + k * (h - cy) - mx) := by
      have : dx = cx + k * (dy - cy) := by omega
      unfold cr way
      simp only
      rw [this]
      grind
    rw [hc]
    generalize cx + k * (h - cy) = x
    unfold sg
    simp only
    by_cases c1 : h < cy <;> by_cases c2 : h < dy
    · simp [c1, c2]
      omega
    · -- down
      have n1 : ¬ (cy < h ∧ h < dy) := by omega
      have n2 : dy < h ∧ h < cy := by omega
      rw [if_neg n1, if_pos n2]
      rcases Int.lt_trichotomy x mx with g | g | g
      · have := Int.mul_pos_of_neg_of_neg (show dy - cy < 0 by omega) (show x - mx < 0 by omega)
        rw [if_pos this]
        simp [c1, c2]
        omega
      · rw [g]
        simp
      · have := Int.mul_neg_of_neg_of_pos (show dy - cy < 0 by omega) (show 0 < x - mx by omega)
        rw [if_neg (by omega), if_pos this]
        simp [c1, c2]
        omega
    · have n1 : cy < h ∧ h < dy := by omega
      rw [if_pos n1]
      rcases Int.lt_trichotomy x mx with g | g | g
      · have := Int.mul_neg_of_pos_of_neg (show 0 < dy - cy by omega) (show x - mx < 0 by omega)
        rw [if_neg (by omega), if_pos this]
        simp [c1, c2]
        omega
      · rw [g]
        simp
      · have := Int.mul_pos (show 0 < dy - cy by omega) (show 0 < x - mx by omega)
        rw [if_pos this]
        simp [c1, c2]
        omega
    · have n1 : ¬ (cy < h ∧ h < dy) := by omega
      have n2 : ¬ (dy < h ∧ h < cy) := by omega
      rw [if_neg n1, if_neg n2]
      simp [c1, c2]
theorem fan_sum (m : Pt) : ∀ (a : Pt) (t : List Pt), fan m (a :: t) = tsum (fun e => pe (way m e.1) (way m e.2)) (pathE (a :: t))
  | a, [] => rfl
  | a, b :: t => by
    show pe (way m a) (way m b) + fan m (b :: t) = pe (way m a) (way m b) + tsum _ (pathE (b :: t))
    rw [fan_sum m b t]
theorem pe_flip {m a b : Pt} (h : ∃ f : Pt, 0 < dt f (way m a) ∧ 0 < dt f (way m b)) : pe (way m a) (way m b) - pe (way a m) (way b m) = u01 (up (way m b)) - u01 (up (way m a)) := by
  obtain ⟨f, ha, hb⟩ := h
  have na : way m a ≠ (0, 0) := fun e => by rw [e] at ha; simp [dt] at ha
  have nb : way m b ≠ (0, 0) := fun e => by rw [e] at hb; simp [dt] at hb
  have flip : ∀ {v : Pt}, way m v ≠ (0, 0) → up (way v m) = !up (way m v) := fun {v} h => by
    have : (way m v).1 ≠ 0 ∨ (way m v).2 ≠ 0 := by
      by_cases c : (way m v).1 = 0
      · right; intro c2; exact h (Prod.ext c c2)
      · left; exact c
    unfold way at this
    simp only at this
    unfold up way
    rw [Bool.eq_iff_iff]
    simp
    omega
  have hc : cr (way a m) (way b m) = cr (way m a) (way m b) := by unfold cr way; grind
  rw [pe_eq, pe_eq, hc, flip na, flip nb]
  have key : ∀ u v : Pt, 0 < dt f u → 0 < dt f v → cr u v = 0 → up u = up v := fun u v hu hv h0 => by
    have h1 := pe_psi hu hv
    have h2 := pe_psi (f := f) (u := u) (v := v) hu hv
    -- parallel and on one side: alike
    have al : Alike u v := by
      refine ⟨dt f v, dt f u, hv, hu, ?_, ?_⟩ <;> (unfold dt cr at *; grind)
    exact al.up
  rcases Int.lt_trichotomy (cr (way m a) (way m b)) 0 with g | g | g
  · have ng : ¬ cr (way m a) (way m b) > 0 := by omega
    simp only [if_neg ng, if_pos g]
    cases up (way m a) <;> cases up (way m b) <;> rfl
  · have := key _ _ ha hb g
    rw [g, this]
    simp
  · simp only [gt_iff_lt, if_pos g]
    cases up (way m a) <;> cases up (way m b) <;> rfl
theorem fan_cof (m : Pt) : ∀ (a : Pt) (t : List Pt), (∀ e ∈ pathE (a :: t), ∃ f : Pt, 0 < dt f (way m e.1) ∧ 0 < dt f (way m e.2)) → fan m (a :: t) - cof m (a :: t) = u01 (up (way m (lastP a t))) - u01 (up (way m a))
  | a, [], _ => by simp [fan, cof, lastP]
  | a, b :: t, h => by
    have h1 := fan_cof m b t fun e he => h e (List.mem_cons_of_mem _ he)
    have h2 := pe_flip (h (a, b) (List.mem_cons_self ..))
    simp only [fan, cof, lastP] at *
    omega
/-- from a point on a side all other sides are seen under less than half a turn -/
theorem sees {m b a : Pt} {t : List Pt} (h : Simple (m :: b :: t ++ [a])) (ht : t ≠ []) : ∀ e ∈ pathE (b :: t ++ [a]), ∃ f : Pt, 0 < dt f (way m e.1) ∧ 0 < dt f (way m e.2) := fun e he => by
  have hp : ((m, b) :: pathE (b :: t ++ [a] ++ [m])).Pairwise Ok := h.ok
  obtain ⟨hq, hp3⟩ := List.pairwise_cons.mp hp
  have hn := List.nodup_cons.mp h.nd
  have hn2 := List.nodup_cons.mp (show (b :: (t ++ [a])).Nodup from hn.2)
  have he2 : e ∈ pathE (b :: t ++ [a] ++ [m]) := pathE_sub (t := t ++ [a]) he
  have m2 := pathE_mem_snd (l := t ++ [a]) he
  have ho := hq e he2
  have e2m : e.2 ≠ m := fun g => hn.1 (g ▸ List.mem_cons_of_mem b m2)
  by_cases c : b = e.1
  · -- the side behind b: apart from the last one
    have hsplit : pathE (b :: t ++ [a] ++ [m]) = pathE (b :: t ++ [a]) ++ [(a, m)] := by
      have : b :: t ++ [a] ++ [m] = (b :: t) ++ a :: [m] := by simp
      rw [this, pathE_append]
      rfl
    rw [hsplit] at hp3
    have hl := (List.pairwise_append.mp hp3).2.2 e he (a, m) (List.mem_cons_self ..)
    have hea : e.2 ≠ a := fun g => by
      cases t with
      | nil => exact ht rfl
      | cons x t =>
        rcases List.mem_cons.mp (show e ∈ (b, x) :: pathE (x :: t ++ [a]) from he) with k | k
        · have hxa : x = a := by rw [k] at g; exact g
          have := (List.nodup_cons.mp hn2.2).1
          rw [hxa] at this
          exact this (List.mem_append_right _ (List.mem_cons_self ..))
        · exact hn2.1 (c ▸ List.mem_append_left _ (pathE_mem_fst k))
    have hme : (a, m).2 ≠ e.1 := fun g => hn.1 ((g.trans c.symm) ▸ List.mem_cons_self ..)
    obtain ⟨f, f1, f2, f3, f4⟩ := hl.2.2 hea hme
    refine ⟨negP f, ?_, ?_⟩ <;> rw [dt_neg, dt_way] <;> simp only at * <;> omega
  · obtain ⟨f, f1, f2, f3, f4⟩ := ho.2.2 c e2m
    refine ⟨f, ?_, ?_⟩ <;> rw [dt_way] <;> simp only at * <;> omega
theorem Btw.of_cross {h : Int} {e : Pt × Pt} (hs : Slp e) (hg : sg h e ≠ 0) : Btw e.1 (xe h e, h) e.2 := by
  obtain ⟨k, hk, hx⟩ := xe_eq hs (sg_ne hg)
  rw [hx h]
  obtain ⟨⟨ax, ay⟩, ⟨bx, byy⟩⟩ := e
  simp only at hk
  have hb : bx = ax + k * (byy - ay) := by omega
  unfold sg at hg
  simp only at hg
  by_cases c : ay < h ∧ h < byy
  · refine ⟨byy - h, h - ay, by omega, by omega, ?_, ?_⟩ <;> simp only <;> (try rw [hb]) <;> grind
  · rw [if_neg c] at hg
    by_cases c2 : byy < h ∧ h < ay
    · refine ⟨h - byy, ay - h, by omega, by omega, ?_, ?_⟩ <;> simp only <;> (try rw [hb]) <;> grind
    · rw [if_neg c2] at hg
      exact absurd rfl hg
/-- of the sides east of a crossing one, counted by their signs -/
theorem east_of {l : List Pt} (hl : Simple l) (ht : tot l = 1) {h : Int} (hs : ∀ e ∈ cyc l, Slp e) (hv : ∀ v ∈ l, v.2 ≠ h) {e0 : Pt × Pt} (h0 : e0 ∈ cyc l) (hg : sg h e0 ≠ 0) :
    2 * tsum (fun e => if xe h e > xe h e0 then sg h e else 0) (cyc l) = 1 - sg h e0 ∧ ∃ L, (cyc l).Perm (e0 :: L) ∧ ∀ e ∈ L, sg h e ≠ 0 → xe h e0 ≠ xe h e := by
  -- begin at the side's corner
  have hrot : ∀ (l : List Pt) (e0 : Pt × Pt), 3 ≤ l.length → e0 ∈ cyc l → ∃ x y t, l = x ++ y ∧ y ++ x = e0.1 :: e0.2 :: t := by
    intro l e0 hlen h0
    have : ∀ (l : List Pt) (z : Pt), e0 ∈ pathE (l ++ [z]) → (∃ x y, l = x ++ e0.1 :: e0.2 :: y) ∨ (e0.2 = z ∧ ∃ x, l = x ++ [e0.1]) := by
      intro l
      induction l with
      | nil => intro z h; cases h
      | cons a l ih =>
        intro z h
        cases l with
        | nil =>
          rcases List.mem_cons.mp h with g | g
          · rw [g]; exact .inr ⟨rfl, [], rfl⟩
          · cases g
        | cons b l =>
          rcases List.mem_cons.mp (show e0 ∈ (a, b) :: pathE (b :: l ++ [z]) from h) with g | g
          · rw [g]; exact .inl ⟨[], l, rfl⟩
          · rcases ih z g with ⟨x, y, e⟩ | ⟨e, x, e2⟩
            · exact .inl ⟨a :: x, y, by rw [e]; rfl⟩
            · exact .inr ⟨e, a :: x, by rw [e2]; rfl⟩
    cases l with
    | nil => simp at hlen
    | cons z s =>
      rcases this (z :: s) z h0 with ⟨x, y, e⟩ | ⟨e, x, e2⟩
      · exact ⟨x, e0.1 :: e0.2 :: y, y ++ x, e, rfl⟩
      · refine ⟨x, [e0.1], ?_⟩
        cases x with
        | nil =>
          rw [e2] at hlen
          simp at hlen
        | cons z' x =>
          have : z = z' := by have := congrArg List.head? e2; simpa using this
          refine ⟨x, e2, ?_⟩
          rw [e, this]
          rfl
  obtain ⟨x, y, t, el, er⟩ := hrot l e0 hl.len h0
  have hl2 : Simple (e0.1 :: e0.2 :: t) := by rw [← er]; rw [el] at hl; exact hl.rot
  have ht2 : tot (e0.1 :: e0.2 :: t) = 1 := by rw [← er, ← tot_rot, ← el]; exact ht
  have hperm : (cyc l).Perm (e0 :: pathE (e0.2 :: t ++ [e0.1])) := by
    have : cyc (e0.1 :: e0.2 :: t) = e0 :: pathE (e0.2 :: t ++ [e0.1]) := rfl
    rw [← this, ← er, el]
    exact cyc_rot x y
  have hs2 : ∀ e ∈ pathE (e0.2 :: t ++ [e0.1]), Slp e := fun e he => hs e (hperm.symm.subset (List.mem_cons_of_mem _ he))
  have hv2 : ∀ v ∈ e0.1 :: e0.2 :: t, v.2 ≠ h := fun v hm => hv v (by
    rw [← er] at hm
    rw [el]
    exact (List.perm_append_comm.mem_iff).mp hm)
  have hB := Btw.of_cross (hs e0 h0) hg
  have hl3 := hl2.ins hB
  have ht3 : tot (e0.1 :: (xe h e0, h) :: e0.2 :: t) = 1 := by rw [tot_ins hB]; exact ht2
  have hl4 : Simple ((xe h e0, h) :: e0.2 :: t ++ [e0.1]) := Simple.rot (a := [e0.1]) hl3
  have ht4 : tot ((xe h e0, h) :: e0.2 :: (t ++ [e0.1])) = 1 := (tot_rot [e0.1] ((xe h e0, h) :: e0.2 :: t)).symm.trans ht3
  have hS := sees hl4 (fun e => by
    have := hl2.len
    rw [e] at this
    simp at this)
  obtain ⟨al1, al2⟩ := hB.alike
  have hH := hopf2 (r := t ++ [e0.1]) hl4
  rw [ht4, lastP_snoc] at hH
  have hfc := fan_cof (xe h e0, h) e0.2 (t ++ [e0.1]) hS
  rw [lastP_snoc] at hfc
  have z1 : pe (way e0.1 (xe h e0, h)) (way (xe h e0, h) e0.2) = 0 := by
    rw [(al1.pe _).1]; exact pe_self_alike al2.symm
  have z2 : pe (way (xe h e0, h) e0.1) (way e0.2 (xe h e0, h)) = 0 := by
    have : cr (way e0.1 (xe h e0, h)) (way (xe h e0, h) e0.2) = 0 := by
      obtain ⟨p, q, hp, hq, a1, a2⟩ := al1.trans2 al2
      have e : p * cr (way e0.1 (xe h e0, h)) (way (xe h e0, h) e0.2) = 0 := by unfold cr; grind
      rcases Int.mul_eq_zero.mp e with g | g
      · omega
      · exact g
    have e2 : cr (way (xe h e0, h) e0.1) (way e0.2 (xe h e0, h)) = cr (way e0.1 (xe h e0, h)) (way (xe h e0, h) e0.2) := by unfold cr way; grind
    rw [pe_eq, e2, this]
    simp
  rw [z1, z2] at hH
  have hfan : fan (xe h e0, h) (e0.2 :: (t ++ [e0.1])) = tsum (fun e => if xe h e > xe h e0 then sg h e else 0) (pathE (e0.2 :: t ++ [e0.1])) := by
    rw [fan_sum]
    refine tsum_congr fun e he => ?_
    have g1 : e.1 ∈ e0.2 :: t := pathE_mem_fst (l := e0.2 :: t) he
    have g2 : e.2 ∈ t ++ [e0.1] := pathE_mem_snd (l := t ++ [e0.1]) he
    have := fan_eq (xe h e0, h) e (hs2 e he) (hv2 _ (List.mem_cons_of_mem _ g1)) (hv2 _ (by
      rcases List.mem_append.mp g2 with k | k
      · exact List.mem_cons_of_mem _ (List.mem_cons_of_mem _ k)
      · rw [List.mem_singleton.mp k]; exact List.mem_cons_self ..))
    exact this
  refine ⟨?_, _, hperm, fun e he hge hx => ?_⟩
  · rw [tsum_perm _ hperm]
    show 2 * ((if xe h e0 > xe h e0 then sg h e0 else 0) + tsum _ (pathE (e0.2 :: t ++ [e0.1]))) = _
    rw [if_neg (by omega), ← hfan]
    have hup : ∀ v : Pt, v.2 ≠ h → up (way (xe h e0, h) v) = decide (h < v.2) := fun v hv => by
      unfold up way; rw [Bool.eq_iff_iff]; simp; omega
    rw [hup _ (hv2 _ (List.mem_cons_self ..)), hup _ (hv2 _ (List.mem_cons_of_mem _ (List.mem_cons_self ..)))] at hfc
    unfold sg at hg ⊢
    by_cases c : e0.1.2 < h ∧ h < e0.2.2
    · rw [if_pos c]
      have d1 : decide (h < e0.1.2) = false := decide_eq_false (by omega)
      have d2 : decide (h < e0.2.2) = true := decide_eq_true (by omega)
      rw [d1, d2] at hfc
      simp only [u01] at hfc
      simp at hfc
      omega
    · rw [if_neg c] at hg ⊢
      by_cases c2 : e0.2.2 < h ∧ h < e0.1.2
      · rw [if_pos c2]
        have d1 : decide (h < e0.1.2) = true := decide_eq_true (by omega)
        have d2 : decide (h < e0.2.2) = false := decide_eq_false (by omega)
        rw [d1, d2] at hfc
        simp only [u01] at hfc
        simp at hfc
        omega
      · rw [if_neg c2] at hg
        exact absurd rfl hg
  · obtain ⟨f, f1, f2⟩ := hS e he
    have hb := Btw.of_cross (hs2 e he) hge
    rw [← hx] at hb
    rw [dt_way] at f1 f2
    have := hb.gt (f := f) (r := dt f (xe h e0, h)) (by omega) (by omega)
    omega
/-! ## The area by strips -/
def wid (h : Int) (l : List Pt) : Int := tsum (fun e => sg h e * xe h e) (cyc l)
theorem sg_eq (h : Int) (e : Pt × Pt) (h1 : e.1.2 ≠ h) (h2 : e.2.2 ≠ h) : sg h e = (if h < e.2.2 then 1 else 0) - (if h < e.1.2 then 1 else 0) := by
  unfold sg
  by_cases c1 : e.1.2 < h ∧ h < e.2.2
  · rw [if_pos c1, if_pos c1.2, if_neg (by omega)]; rfl
  · rw [if_neg c1]
    by_cases c2 : e.2.2 < h ∧ h < e.1.2
    · rw [if_pos c2, if_neg (by omega), if_pos c2.2]; rfl
    · rw [if_neg c2]
      by_cases c3 : h < e.2.2
      · rw [if_pos c3, if_pos (by omega)]; rfl
      · rw [if_neg c3, if_neg (by omega)]; rfl
theorem cyc_snd {l : List Pt} {e : Pt × Pt} (h : e ∈ cyc l) : e.2 ∈ l := by
  cases l with
  | nil => cases h
  | cons x t =>
    have := pathE_mem_snd (a := x) (l := t ++ [x]) h
    rcases List.mem_append.mp this with g | g
    · exact List.mem_cons_of_mem _ g
    · rw [List.mem_singleton.mp g]; exact List.mem_cons_self ..
theorem pairwise_of_perm {α : Type} {R : α → α → Prop} : ∀ {l : List α}, (∀ a ∈ l, ∃ L, l.Perm (a :: L) ∧ ∀ b ∈ L, R a b) → l.Pairwise R
  | [], _ => List.Pairwise.nil
  | x :: l, h => by
    obtain ⟨L, hp, hL⟩ := h x (List.mem_cons_self ..)
    have hl : l.Perm L := (List.perm_cons x).mp hp
    refine List.pairwise_cons.mpr ⟨fun b hb => hL b (hl.subset hb), pairwise_of_perm fun a ha => ?_⟩
    obtain ⟨K, kp, hK⟩ := h a (List.mem_cons_of_mem _ ha)
    obtain ⟨s, t, e⟩ := List.append_of_mem ha
    have h1 : l.Perm (a :: (s ++ t)) := by rw [e]; exact List.perm_middle
    refine ⟨s ++ t, h1, fun b hb => hK b ?_⟩
    have h2 : (x :: l).Perm (a :: x :: (s ++ t)) := (h1.cons x).trans (List.Perm.swap ..)
    have h3 : (x :: (s ++ t)).Perm K := (List.perm_cons a).mp (h2.symm.trans kp)
    exact h3.subset (List.mem_cons_of_mem _ hb)
theorem wid_nonneg {l : List Pt} (hl : Simple l) (ht : tot l = 1) {h : Int} (hs : ∀ e ∈ cyc l, Slp e) (hv : ∀ v ∈ l, v.2 ≠ h) : 0 ≤ wid h l ∧ ((∃ e ∈ cyc l, sg h e ≠ 0) → 0 < wid h l) := by
  have key := widths _ (((cyc l).filter fun e => decide (sg h e ≠ 0)).map fun e => (sg h e, xe h e)) (Nat.le_refl _) (fun c hc => by
    obtain ⟨e, he, rfl⟩ := List.mem_map.mp hc
    have := (List.mem_filter.mp he).2
    exact sg_pm (of_decide_eq_true this)) (by
    refine List.pairwise_map.mpr ?_
    refine pairwise_of_perm fun e he => ?_
    obtain ⟨he1, he2⟩ := List.mem_filter.mp he
    obtain ⟨_, L, hp, hL⟩ := east_of hl ht hs hv he1 (of_decide_eq_true he2)
    refine ⟨L.filter fun e => decide (sg h e ≠ 0), ?_, fun b hb => ?_⟩
    · have := hp.filter (fun e => decide (sg h e ≠ 0))
      rw [List.filter_cons_of_pos (by exact he2)] at this
      exact this
    · obtain ⟨hb1, hb2⟩ := List.mem_filter.mp hb
      exact hL b hb1 (of_decide_eq_true hb2)) (fun c hc => by
    obtain ⟨e, he, rfl⟩ := List.mem_map.mp hc
    obtain ⟨he1, he2⟩ := List.mem_filter.mp he
    have := (east_of hl ht hs hv he1 (of_decide_eq_true he2)).1
    unfold above
    rw [tsum_map, tsum_filter]
    · exact this
    · intro a _ ha
      have : sg h a = 0 := by
        have := of_decide_eq_false ha
        omega
      simp only [this]
      split <;> rfl) (by
    rw [tsum_map, tsum_filter]
    · have := tsum_cyc (fun v => if h < v.2 then (1 : Int) else 0) l
      rw [← this]
      exact tsum_congr fun e he => sg_eq h e (hv _ (cyc_fst he)) (hv _ (cyc_snd he))
    · intro a _ ha
      have := of_decide_eq_false ha
      simp only
      omega)
  have e1 : tsum (fun c : Int × Int => c.1 * c.2) (((cyc l).filter fun e => decide (sg h e ≠ 0)).map fun e => (sg h e, xe h e)) = wid h l := by
    rw [tsum_map, tsum_filter]
    · rfl
    · intro a _ ha
      have : sg h a = 0 := by
        have := of_decide_eq_false ha
        omega
      simp only [this, Int.zero_mul]
  rw [e1] at key
  refine ⟨key.1, fun ⟨e, he, hg⟩ => key.2 fun hnil => ?_⟩
  have : (sg h e, xe h e) ∈ ((cyc l).filter fun e => decide (sg h e ≠ 0)).map fun e => (sg h e, xe h e) :=
    List.mem_map.mpr ⟨e, List.mem_filter.mpr ⟨he, decide_eq_true hg⟩, rfl⟩
  rw [hnil] at this
  cases this
/-- the odd heights from lo on -/
def odds (lo : Int) (n : Nat) : List Int := (List.range n).map fun i : Nat => lo + 2 * (i : Int) + 1
theorem tsum_range_succ (g : Nat → Int) (n : Nat) : tsum g (List.range (n + 1)) = tsum g (List.range n) + g n := by
  rw [List.range_succ, tsum_append]
  simp [tsum]
theorem strip_up (lo ax k ya yb : Int) (h1 : lo ≤ ya) (h2 : ya ≤ yb) (e1 : (ya - lo) % 2 = 0) (e2 : (yb - lo) % 2 = 0) : ∀ n : Nat,
    tsum (fun i : Nat => if ya < lo + 2 * (i : Int) + 1 ∧ lo + 2 * (i : Int) + 1 < yb then 4 * (ax + k * (lo + 2 * (i : Int) + 1 - ya)) else 0) (List.range n)
      = if lo + 2 * (n : Int) ≤ ya then 0 else if lo + 2 * (n : Int) ≤ yb then (lo + 2 * (n : Int) - ya) * (2 * ax + k * (lo + 2 * (n : Int) - ya)) else (yb - ya) * (2 * ax + k * (yb - ya))
  | 0 => by
    simp only [List.range_zero, tsum]
    rw [if_pos (by omega)]
  | n + 1 => by
    rw [tsum_range_succ, strip_up lo ax k ya yb h1 h2 e1 e2 n]
    have c : ((n + 1 : Nat) : Int) = (n : Int) + 1 := by omega
    rw [c]
    generalize (n : Int) = i
    by_cases a : lo + 2 * (i + 1) ≤ ya
    · rw [if_pos (show lo + 2 * i ≤ ya by omega), if_neg (by omega), if_pos a]; rfl
    · rw [if_neg a]
      by_cases b : lo + 2 * (i + 1) ≤ yb
      · rw [if_pos b]
        by_cases a2 : lo + 2 * i ≤ ya
        · have : ya = lo + 2 * i := by omega
          rw [if_pos a2, if_pos (by omega), this]
          grind
        · rw [if_neg a2, if_pos (show lo + 2 * i ≤ yb by omega), if_pos (by omega)]
          grind
      · rw [if_neg b]
        rw [if_neg (show ¬ (ya < lo + 2 * i + 1 ∧ lo + 2 * i + 1 < yb) by omega)]
        by_cases a2 : lo + 2 * i ≤ ya
        · have : ya = lo + 2 * i := by omega
          have : yb = lo + 2 * i := by omega
          rw [if_pos a2]
          have : yb - ya = 0 := by omega
          rw [this]; simp
        · rw [if_neg a2]
          by_cases b2 : lo + 2 * i ≤ yb
          · have : yb = lo + 2 * i := by omega
            rw [if_pos b2, this]; omega
          · rw [if_neg b2]; omega
theorem strip_edge {lo : Int} {n : Nat} {e : Pt × Pt} (hs : Slp e) (h1 : lo ≤ e.1.2) (h2 : lo ≤ e.2.2) (h3 : e.1.2 ≤ lo + 2 * (n : Int)) (h4 : e.2.2 ≤ lo + 2 * (n : Int)) (e1 : (e.1.2 - lo) % 2 = 0) (e2 : (e.2.2 - lo) % 2 = 0) :
    tsum (fun h => 4 * (sg h e * xe h e)) (odds lo n) = (e.2.2 - e.1.2) * (e.1.1 + e.2.1) := by
  unfold odds
  rw [tsum_map]
  by_cases hy : e.1.2 = e.2.2
  · rw [tsum_zero fun i _ => ?_, hy]
    · simp
    · unfold sg
      rw [if_neg (by omega), if_neg (by omega)]
      simp
  · obtain ⟨k, hk, hx⟩ := xe_eq hs hy
    rcases Int.lt_or_gt_of_ne hy with c | c
    · have := strip_up lo e.1.1 k e.1.2 e.2.2 h1 (by omega) e1 e2 n
      have e3 : tsum (fun b : Nat => 4 * (sg (lo + 2 * (b : Int) + 1) e * xe (lo + 2 * (b : Int) + 1) e)) (List.range n) = (e.2.2 - e.1.2) * (2 * e.1.1 + k * (e.2.2 - e.1.2)) := by
        have this2 := this.trans (show _ = (e.2.2 - e.1.2) * (2 * e.1.1 + k * (e.2.2 - e.1.2)) by
            rw [if_neg (by omega)]
            by_cases d : lo + 2 * (n : Int) ≤ e.2.2
            · have : lo + 2 * (n : Int) = e.2.2 := by omega
              rw [if_pos d, this]
            · rw [if_neg d])
        rw [← this2]
        refine tsum_congr fun i _ => ?_
        rw [hx]
        unfold sg
        by_cases d : e.1.2 < lo + 2 * (i : Int) + 1 ∧ lo + 2 * (i : Int) + 1 < e.2.2
        · rw [if_pos d, if_pos d]; omega
        · rw [if_neg d, if_neg d, if_neg (by omega)]; simp
      rw [e3]
      have : e.2.1 = e.1.1 + k * (e.2.2 - e.1.2) := by omega
      rw [this]
      grind
    · have := strip_up lo e.2.1 k e.2.2 e.1.2 h2 (by omega) e2 e1 n
      have e3 : tsum (fun b : Nat => 4 * (sg (lo + 2 * (b : Int) + 1) e * xe (lo + 2 * (b : Int) + 1) e)) (List.range n) = - ((e.1.2 - e.2.2) * (2 * e.2.1 + k * (e.1.2 - e.2.2))) := by
        have this2 := this.trans (show _ = (e.1.2 - e.2.2) * (2 * e.2.1 + k * (e.1.2 - e.2.2)) by
            rw [if_neg (by omega)]
            by_cases d : lo + 2 * (n : Int) ≤ e.1.2
            · have : lo + 2 * (n : Int) = e.1.2 := by omega
              rw [if_pos d, this]
            · rw [if_neg d])
        rw [← this2]
        rw [← Int.neg_one_mul, ← tsum_mul]
        refine tsum_congr fun i _ => ?_
        rw [hx]
        unfold sg
        by_cases d : e.2.2 < lo + 2 * (i : Int) + 1 ∧ lo + 2 * (i : Int) + 1 < e.1.2
        · rw [if_neg (by omega), if_pos d, if_pos d]
          have : e.2.1 = e.1.1 + k * (e.2.2 - e.1.2) := by omega
          rw [this]
          grind
        · rw [if_neg (by omega), if_neg d, if_neg d]; simp
      rw [e3]
      have : e.2.1 = e.1.1 + k * (e.2.2 - e.1.2) := by omega
      rw [this]
      grind
theorem low_bound : ∀ l : List Pt, ∃ M : Nat, ∀ v ∈ l, -(2 * (M : Int)) ≤ v.2 ∧ v.2 ≤ 2 * (M : Int)
  | [] => ⟨0, fun v hv => by cases hv⟩
  | x :: l => by
    obtain ⟨M, h⟩ := low_bound l
    refine ⟨M + x.2.natAbs, fun v hv => ?_⟩
    rcases List.mem_cons.mp hv with g | g
    · rw [g]; omega
    · have := h v g; omega
theorem area_pos_sc {l : List Pt} (hl : Simple l) (ht : tot l = 1) (hs : ∀ e ∈ cyc l, Slp e) (hev : ∀ v ∈ l, v.2 % 2 = 0) : 0 < areaL l := by
  obtain ⟨M, hM⟩ := low_bound l
  have hodd : ∀ h ∈ odds (-(2 * (M : Int))) (2 * M), ∀ v ∈ l, v.2 ≠ h := fun h hh v hv => by
    obtain ⟨i, _, rfl⟩ := List.mem_map.mp hh
    have := hev v hv
    omega
  -- all strips together
  have hsum : tsum (fun h => 4 * wid h l) (odds (-(2 * (M : Int))) (2 * M)) = areaL l := by
    have e1 : tsum (fun h => 4 * wid h l) (odds (-(2 * (M : Int))) (2 * M)) = tsum (fun h => tsum (fun e => 4 * (sg h e * xe h e)) (cyc l)) (odds (-(2 * (M : Int))) (2 * M)) :=
      tsum_congr fun h _ => (tsum_mul 4 _ _).symm
    rw [e1, tsum_comm]
    have e2 : tsum (fun e => tsum (fun h => 4 * (sg h e * xe h e)) (odds (-(2 * (M : Int))) (2 * M))) (cyc l) = tsum (fun e : Pt × Pt => cr e.1 e.2 + (e.2.1 * e.2.2 - e.1.1 * e.1.2)) (cyc l) := by
      refine tsum_congr fun e he => ?_
      have b1 := hM _ (cyc_fst he)
      have b2 := hM _ (cyc_snd he)
      have p1 := hev _ (cyc_fst he)
      have p2 := hev _ (cyc_snd he)
      rw [strip_edge (hs e he) (by omega) (by omega) (by omega) (by omega) (by omega) (by omega)]
      unfold cr
      grind
    rw [e2, tsum_add, tsum_cyc (fun v => v.1 * v.2)]
    unfold areaL
    omega
  rw [← hsum]
  -- some side rises or falls
  have hex : ∃ e ∈ cyc l, e.1.2 ≠ e.2.2 := by
    apply Classical.byContradiction
    intro hno
    have hall : ∀ s ∈ sid l, s.2 = 0 := fun s hs => by
      obtain ⟨e, he, rfl⟩ := List.mem_map.mp hs
      have : e.1.2 = e.2.2 := Classical.byContradiction fun c => hno ⟨e, he, c⟩
      unfold wayE way
      simp only
      omega
    have hz : ∀ L : List Pt, (∀ s ∈ L, s.2 = 0) → peSum L = 0 := fun L => by
      induction L with
      | nil => intro _; rfl
      | cons a L ih =>
        intro h
        cases L with
        | nil => rfl
        | cons b L =>
          have ha := h a (List.mem_cons_self ..)
          have hb := h b (List.mem_cons_of_mem _ (List.mem_cons_self ..))
          have i2 := ih fun s hs => h s (List.mem_cons_of_mem _ hs)
          have hc : cr a b = 0 := by unfold cr; rw [ha, hb]; simp
          simp only [peSum]
          rw [i2, pe_eq, hc]
          simp
    unfold tot at ht
    cases hsd : sid l with
    | nil => rw [hsd] at ht; simp [totS] at ht
    | cons s t =>
      rw [hsd] at ht hall
      have : totS (s :: t) = 0 := hz _ fun u hu => by
        rcases List.mem_append.mp hu with g | g
        · exact hall u g
        · rw [List.mem_singleton.mp g]; exact hall s (List.mem_cons_self ..)
      omega
  obtain ⟨e, he, hne⟩ := hex
  have b1 := hM _ (cyc_fst he)
  have b2 := hM _ (cyc_snd he)
  have p1 := hev _ (cyc_fst he)
  have p2 := hev _ (cyc_snd he)
  have hin : ∀ y : Int, y % 2 = 0 → -(2 * (M : Int)) ≤ y → y < 2 * (M : Int) → y + 1 ∈ odds (-(2 * (M : Int))) (2 * M) := fun y h1 h2 h3 => by
    refine List.mem_map.mpr ⟨((y + 2 * (M : Int)) / 2).toNat, List.mem_range.mpr (by omega), by omega⟩
  have hnn : ∀ h ∈ odds (-(2 * (M : Int))) (2 * M), 0 ≤ 4 * wid h l := fun h hh => by
    have := (wid_nonneg hl ht hs (hodd h hh)).1
    omega
  rcases Int.lt_or_gt_of_ne hne with c | c
  · have hm := hin e.1.2 p1 (by omega) (by omega)
    refine tsum_pos hnn hm ?_
    have : 0 < wid (e.1.2 + 1) l := (wid_nonneg hl ht hs (hodd _ hm)).2 ⟨e, he, by
      unfold sg
      rw [if_pos (by omega)]
      omega⟩
    omega
  · have hm := hin e.2.2 p2 (by omega) (by omega)
    refine tsum_pos hnn hm ?_
    have : 0 < wid (e.2.2 + 1) l := (wid_nonneg hl ht hs (hodd _ hm)).2 ⟨e, he, by
      unfold sg
      rw [if_neg (by omega), if_pos (by omega)]
      omega⟩
    omega
/-! ## Fences that are changed as a whole -/
/-- a map that takes straight lines to straight lines, by functionals -/
def Adj (φ : Pt → Pt) : Prop := ∀ f : Pt, ∃ f' : Pt, ∃ c : Int, 0 < c ∧ ∀ a b, dt f' (way (φ a) (φ b)) = c * dt f (way a b)
theorem goesOn_iff {u v : Pt} (hu : u ≠ (0, 0)) : goesOn u v ↔ ∃ f : Pt, 0 < dt f u ∧ 0 < dt f v := by
  constructor
  · exact half hu
  · rintro ⟨f, h1, h2⟩
    by_cases c : cr u v = 0
    · right
      have h3 : dt f u * dt u v = dt f v * dt u u := by unfold dt cr at *; grind
      have h4 := Int.mul_pos h2 (sq_pos hu)
      exact pos_of_mul h1 (by omega)
    · exact .inl c
theorem Adj.ne {φ : Pt → Pt} (h : Adj φ) {a b : Pt} (hn : a ≠ b) : φ a ≠ φ b := fun e => by
  obtain ⟨f', c, hc, hf⟩ := h (way a b)
  have h1 := hf a b
  have h2 := Int.mul_pos hc (sq_pos (way_ne hn))
  have h3 : dt f' (way (φ a) (φ b)) = 0 := by rw [e]; unfold dt way; simp
  omega
theorem Adj.inj {φ : Pt → Pt} (h : Adj φ) {a b : Pt} : φ a = φ b ↔ a = b :=
  ⟨fun e => Classical.byContradiction fun n => h.ne n e, fun e => congrArg φ e⟩
def both (φ : Pt → Pt) (e : Pt × Pt) : Pt × Pt := (φ e.1, φ e.2)
theorem pathE_map (φ : Pt → Pt) : ∀ l : List Pt, pathE (l.map φ) = (pathE l).map (both φ)
  | [] => rfl
  | [_] => rfl
  | a :: b :: t => congrArg (List.cons (φ a, φ b)) (pathE_map φ (b :: t))
theorem cyc_map (φ : Pt → Pt) (l : List Pt) : cyc (l.map φ) = (cyc l).map (both φ) := by
  cases l with
  | nil => rfl
  | cons x t =>
    show pathE (φ x :: (t.map φ ++ [φ x])) = (pathE (x :: (t ++ [x]))).map (both φ)
    rw [← pathE_map]
    simp
theorem nodup_map {φ : Pt → Pt} (h : Adj φ) {l : List Pt} (hl : l.Nodup) : (l.map φ).Nodup := by
  refine List.pairwise_map.mpr (List.Pairwise.imp (fun hn => h.ne hn) hl)
theorem cyc_ne {l : List Pt} (hn : l.Nodup) (h2 : 2 ≤ l.length) {e : Pt × Pt} (he : e ∈ cyc l) : e.1 ≠ e.2 := by
  cases l with
  | nil => cases he
  | cons x t =>
    have : ∀ (a : Pt) (s : List Pt) (z : Pt), (a :: s).Nodup → z ∉ a :: s ∨ (s ≠ [] ∧ z = a) → e ∈ pathE (a :: s ++ [z]) → z ∉ s → e.1 ≠ e.2 := by
      intro a s
      induction s generalizing a with
      | nil =>
        intro z _ hz he _
        rcases List.mem_cons.mp he with g | g
        · rw [g]
          intro k
          rcases hz with hz | hz
          · exact hz ((show a = z from k) ▸ List.mem_cons_self ..)
          · exact hz.1 rfl
        · cases g
      | cons b s ih =>
        intro z hn hz he hz2
        obtain ⟨n1, n2⟩ := List.nodup_cons.mp hn
        rcases List.mem_cons.mp (show e ∈ (a, b) :: pathE (b :: s ++ [z]) from he) with g | g
        · rw [g]
          intro k
          exact n1 ((show a = b from k) ▸ List.mem_cons_self ..)
        · exact ih b z n2 (.inl hz2) g (fun k => hz2 (List.mem_cons_of_mem _ k))
    cases t with
    | nil => simp at h2
    | cons y t => exact this x (y :: t) x hn (.inr ⟨List.cons_ne_nil _ _, rfl⟩) he (List.nodup_cons.mp hn).1
theorem Ok.map {φ : Pt → Pt} (h : Adj φ) {e f : Pt × Pt} (he : e.1 ≠ e.2) (hf : f.1 ≠ f.2) (ho : Ok e f) : Ok (both φ e) (both φ f) := by
  have go : ∀ {e f : Pt × Pt}, e.1 ≠ e.2 → goesOn (wayE e) (wayE f) → goesOn (wayE (both φ e)) (wayE (both φ f)) := fun {e f} hn hg => by
    obtain ⟨g, g1, g2⟩ := (goesOn_iff (u := wayE e) (way_ne hn)).mp hg
    obtain ⟨g', c, hc, hh⟩ := h g
    refine (goesOn_iff (u := wayE (both φ e)) (way_ne (h.ne hn))).mpr ⟨g', ?_, ?_⟩
    · have := hh e.1 e.2
      have h2 := Int.mul_pos hc g1
      show 0 < dt g' (way (φ e.1) (φ e.2))
      rw [this]; exact h2
    · have := hh f.1 f.2
      have h2 := Int.mul_pos hc g2
      show 0 < dt g' (way (φ f.1) (φ f.2))
      rw [this]; exact h2
  refine ⟨fun k => go he (ho.1 (h.inj.mp k)), fun k => go hf (ho.2.1 (h.inj.mp k)), fun k1 k2 => ?_⟩
  obtain ⟨g, g1, g2, g3, g4⟩ := ho.2.2 (fun z => k1 (congrArg φ z)) (fun z => k2 (congrArg φ z))
  obtain ⟨g', c, hc, hh⟩ := h g
  have lt : ∀ a b : Pt, dt g a < dt g b → dt g' (φ a) < dt g' (φ b) := fun a b hab => by
    have h1 := hh a b
    rw [dt_way, dt_way] at h1
    have := Int.mul_pos hc (show 0 < dt g b - dt g a by omega)
    omega
  exact ⟨g', lt _ _ g1, lt _ _ g2, lt _ _ g3, lt _ _ g4⟩
theorem Simple.map {φ : Pt → Pt} (h : Adj φ) {l : List Pt} (hl : Simple l) : Simple (l.map φ) := by
  refine ⟨nodup_map h hl.nd, by rw [List.length_map]; exact hl.len, ?_⟩
  rw [cyc_map, List.pairwise_map]
  refine List.Pairwise.imp_of_mem ?_ hl.ok
  intro a b ha hb hab
  exact Ok.map h (cyc_ne hl.nd (by have := hl.len; omega) ha) (cyc_ne hl.nd (by have := hl.len; omega) hb) hab
/-! ## The area of any simple polygon that turns left -/
theorem Adj.diag {p q : Int} (hp : 0 < p) (hq : 0 < q) : Adj (fun v => (p * v.1, q * v.2)) := fun f =>
  ⟨(q * f.1, p * f.2), p * q, Int.mul_pos hp hq, fun a b => by unfold dt way; simp only; grind⟩
theorem areaL_map (φ : Pt → Pt) (l : List Pt) : areaL (l.map φ) = tsum (fun e => cr (φ e.1) (φ e.2)) (cyc l) := by
  unfold areaL
  rw [cyc_map, tsum_map]
  rfl
theorem sid_map (φ : Pt → Pt) (l : List Pt) : sid (l.map φ) = (cyc l).map fun e => way (φ e.1) (φ e.2) := by
  unfold sid
  rw [cyc_map, List.map_map]
  rfl
theorem peSum_map (ψ : Pt → Pt) (h : ∀ a b, pe (ψ a) (ψ b) = pe a b) : ∀ L : List Pt, peSum (L.map ψ) = peSum L
  | [] => rfl
  | [_] => rfl
  | a :: b :: t => by
    show pe (ψ a) (ψ b) + peSum ((b :: t).map ψ) = pe a b + peSum (b :: t)
    rw [h, peSum_map ψ h (b :: t)]
theorem totS_map (ψ : Pt → Pt) (h : ∀ a b, pe (ψ a) (ψ b) = pe a b) (L : List Pt) : totS (L.map ψ) = totS L := by
  cases L with
  | nil => rfl
  | cons s t =>
    have e : ψ s :: t.map ψ ++ [ψ s] = (s :: t ++ [s]).map ψ := by simp
    show peSum (ψ s :: t.map ψ ++ [ψ s]) = peSum (s :: t ++ [s])
    rw [e, peSum_map ψ h]
theorem pe_diag {p q : Int} (hp : 0 < p) (hq : 0 < q) (a b : Pt) : pe (p * a.1, q * a.2) (p * b.1, q * b.2) = pe a b := by
  have hup : ∀ v : Pt, up (p * v.1, q * v.2) = up v := fun v => by
    have a1 := pos_iff (p := 1) (q := p) (x := p * v.1) (y := v.1) (by omega) hp (by omega)
    have a2 := pos_iff (p := 1) (q := q) (x := q * v.2) (y := v.2) (by omega) hq (by omega)
    unfold up
    rw [Bool.eq_iff_iff]
    simp only [gt_iff_lt, Bool.or_eq_true, decide_eq_true_eq, Bool.and_eq_true]
    omega
  have hc : cr (p * a.1, q * a.2) (p * b.1, q * b.2) = (p * q) * cr a b := by unfold cr; simp only; grind
  have a3 := pos_iff (p := 1) (q := p * q) (x := p * q * cr a b) (y := cr a b) (by omega) (Int.mul_pos hp hq) (by omega)
  rw [pe_eq, pe_eq, hup, hup, hc]
  by_cases c1 : cr a b > 0
  · rw [if_pos c1, if_pos (a3.1.mpr c1)]
  · rw [if_neg c1, if_neg (fun k => c1 (a3.1.mp k))]
    by_cases c2 : cr a b < 0
    · rw [if_pos c2, if_pos (a3.2.mpr c2)]
    · rw [if_neg c2, if_neg (fun k => c2 (a3.2.mp k))]
theorem tot_diag {p q : Int} (hp : 0 < p) (hq : 0 < q) (l : List Pt) : tot (l.map fun v => (p * v.1, q * v.2)) = tot l := by
  have : sid (l.map fun v : Pt => (p * v.1, q * v.2)) = (sid l).map fun v => (p * v.1, q * v.2) := by
    rw [sid_map]
    unfold sid
    rw [List.map_map]
    refine List.map_congr_left fun e _ => ?_
    show way _ _ = (p * (way e.1 e.2).1, q * (way e.1 e.2).2)
    unfold way
    exact Prod.ext (by simp only; grind) (by simp only; grind)
  unfold tot
  rw [this, totS_map _ (pe_diag hp hq)]
/-- a number that all rises divide -/
def rises : List (Pt × Pt) → Int
  | [] => 1
  | e :: t => (if e.2.2 - e.1.2 = 0 then 1 else ((e.2.2 - e.1.2).natAbs : Int)) * rises t
theorem rises_pos : ∀ L, 0 < rises L
  | [] => by decide
  | e :: t => by
    have := rises_pos t
    unfold rises
    split
    · omega
    · exact Int.mul_pos (by omega) this
theorem rises_dvd : ∀ {L : List (Pt × Pt)} {e : Pt × Pt}, e ∈ L → e.1.2 ≠ e.2.2 → ∃ c, rises L = (e.2.2 - e.1.2) * c
  | f :: t, e, he, hn => by
    rcases List.mem_cons.mp he with g | g
    · subst g
      unfold rises
      rw [if_neg (by omega)]
      rcases Int.natAbs_eq (e.2.2 - e.1.2) with k | k
      · refine ⟨rises t, ?_⟩
        rw [← k]
      · refine ⟨-rises t, ?_⟩
        have k2 : ((e.2.2 - e.1.2).natAbs : Int) = -(e.2.2 - e.1.2) := by omega
        rw [k2]
        grind
    · obtain ⟨c, hc⟩ := rises_dvd g hn
      unfold rises
      refine ⟨(if f.2.2 - f.1.2 = 0 then 1 else ((f.2.2 - f.1.2).natAbs : Int)) * c, ?_⟩
      rw [hc]
      grind
theorem area_pos {l : List Pt} (hl : Simple l) (ht : tot l = 1) : 0 < areaL l := by
  have hp : 0 < 2 * rises (cyc l) := by have := rises_pos (cyc l); omega
  have hl2 := hl.map (Adj.diag hp (show (0 : Int) < 2 by omega))
  have ht2 : tot (l.map fun v => (2 * rises (cyc l) * v.1, 2 * v.2)) = 1 := by rw [tot_diag hp (by omega)]; exact ht
  have := area_pos_sc hl2 ht2 (fun e he => by
    rw [cyc_map] at he
    obtain ⟨e, he1, rfl⟩ := List.mem_map.mp he
    intro hn
    simp only [both] at hn ⊢
    obtain ⟨c, hc⟩ := rises_dvd he1 (by omega)
    refine ⟨c * (e.2.1 - e.1.1), ?_⟩
    generalize rises (cyc l) = R at *
    subst hc
    grind) (fun v hv => by
    obtain ⟨v, _, rfl⟩ := List.mem_map.mp hv
    simp only
    omega)
  rw [areaL_map] at this
  have e2 : tsum (fun e : Pt × Pt => cr (2 * rises (cyc l) * e.1.1, 2 * e.1.2) (2 * rises (cyc l) * e.2.1, 2 * e.2.2)) (cyc l) = (2 * (2 * rises (cyc l))) * areaL l := by
    unfold areaL
    rw [← tsum_mul]
    refine tsum_congr fun e _ => ?_
    unfold cr
    simp only
    grind
  rw [e2] at this
  exact pos_of_mul (by omega) this
/-! ## The other way about -/
def swp (e : Pt × Pt) : Pt × Pt := (e.2, e.1)
theorem pathE_reverse : ∀ l : List Pt, pathE l.reverse = ((pathE l).map swp).reverse
  | [] => rfl
  | [_] => rfl
  | a :: b :: t => by
    have ih := pathE_reverse (b :: t)
    have e1 : (a :: b :: t).reverse = t.reverse ++ b :: [a] := by simp
    have e2 : (b :: t).reverse = t.reverse ++ [b] := by simp
    rw [e2] at ih
    rw [e1, pathE_append, ih]
    show _ ++ [(b, a)] = ((b, a) :: (pathE (b :: t)).map swp).reverse
    rw [List.reverse_cons]
theorem cyc_reverse (z : Pt) (s : List Pt) : cyc (z :: s.reverse) = ((cyc (z :: s)).map swp).reverse := by
  show pathE (z :: s.reverse ++ [z]) = ((pathE (z :: s ++ [z])).map swp).reverse
  rw [← pathE_reverse]
  simp
theorem Ok.swp {e f : Pt × Pt} (h : Ok e f) : Ok (swp e) (swp f) := by
  have go : ∀ {e f : Pt × Pt}, goesOn (wayE f) (wayE e) → goesOn (wayE (Bay.swp e)) (wayE (Bay.swp f)) := fun {e f} h => by
    unfold goesOn cr dt wayE way Bay.swp at *
    simp only at *
    grind
  refine ⟨fun k => go (h.2.1 (show f.2 = e.1 from k.symm)), fun k => go (h.1 (show e.2 = f.1 from k.symm)), fun k1 k2 => ?_⟩
  obtain ⟨g, g1, g2, g3, g4⟩ := h.2.2 (fun z => k2 (show f.1 = e.2 from z.symm)) (fun z => k1 (show e.1 = f.2 from z.symm))
  exact ⟨g, g4, g3, g2, g1⟩
theorem Simple.rev1 {z : Pt} {s : List Pt} (h : Simple (z :: s)) : Simple (z :: s.reverse) := by
  refine ⟨((List.reverse_perm s).cons z).nodup_iff.mpr h.nd, by have := h.len; simp at *; omega, ?_⟩
  rw [cyc_reverse]
  have : ((cyc (z :: s)).map Bay.swp).Pairwise Ok := List.pairwise_map.mpr (List.Pairwise.imp (fun h => h.swp) h.ok)
  exact (List.reverse_perm _).symm.pairwise this Ok.symm
theorem Simple.rev {l : List Pt} (h : Simple l) : Simple l.reverse := by
  cases l with
  | nil => exact h
  | cons z s =>
    have := Simple.rot (a := [z]) (b := s.reverse) h.rev1
    rw [List.reverse_cons]
    exact this
theorem areaL_rot (a b : List Pt) : areaL (a ++ b) = areaL (b ++ a) := tsum_perm _ (cyc_rot a b)
theorem areaL_rev (l : List Pt) : areaL l.reverse = - areaL l := by
  cases l with
  | nil => rfl
  | cons z s =>
    rw [List.reverse_cons, ← areaL_rot [z]]
    show areaL (z :: s.reverse) = _
    unfold areaL
    rw [cyc_reverse, tsum_perm _ (List.reverse_perm _), tsum_map, ← Int.neg_one_mul, ← tsum_mul]
    refine tsum_congr fun e _ => ?_
    unfold cr swp
    simp only
    grind
theorem peSum_rev : ∀ L : List Pt, peSum (L.map negP).reverse = - tsum (fun e : Pt × Pt => pe (negP e.1) (negP e.2)) (pathE L)
  | [] => rfl
  | [_] => rfl
  | a :: b :: t => by
    have ih := peSum_rev (b :: t)
    have e1 : ((a :: b :: t).map negP).reverse = (t.map negP).reverse ++ negP b :: [negP a] := by simp
    have e2 : ((b :: t).map negP).reverse = (t.map negP).reverse ++ [negP b] := by simp
    rw [e2] at ih
    rw [e1, peSum_append, ih]
    have e3 : tsum (fun e : Pt × Pt => pe (negP e.1) (negP e.2)) (pathE (a :: b :: t)) = pe (negP a) (negP b) + tsum (fun e : Pt × Pt => pe (negP e.1) (negP e.2)) (pathE (b :: t)) := rfl
    rw [e3]
    have e4 : peSum [negP b, negP a] = - pe (negP a) (negP b) := by
      simp only [peSum]
      have := cr_anti (negP a) (negP b)
      rw [pe_eq, pe_eq, this]
      rcases Int.lt_trichotomy (cr (negP a) (negP b)) 0 with g | g | g
      · have n1 : ¬ cr (negP a) (negP b) > 0 := by omega
        have n2 : -cr (negP a) (negP b) > 0 := by omega
        rw [if_pos n2, if_neg n1, if_pos g]
        split <;> rfl
      · rw [g]; rfl
      · have n1 : ¬ -cr (negP a) (negP b) > 0 := by omega
        have n2 : -cr (negP a) (negP b) < 0 := by omega
        rw [if_neg n1, if_pos n2, if_pos g]
        split <;> rfl
    rw [e4]
    omega
theorem up_neg {v : Pt} (h : v ≠ (0, 0)) : up (negP v) = !up v := by
  have : v.1 ≠ 0 ∨ v.2 ≠ 0 := by
    by_cases c : v.1 = 0
    · right; intro c2; exact h (Prod.ext c c2)
    · left; exact c
  unfold up negP
  rw [Bool.eq_iff_iff]
  simp
  omega
theorem pe_neg {u v : Pt} (hu : u ≠ (0, 0)) (hv : v ≠ (0, 0)) (hg : goesOn u v) : pe (negP u) (negP v) = pe u v - (u01 (up v) - u01 (up u)) := by
  have hc : cr (negP u) (negP v) = cr u v := by unfold cr negP; grind
  rw [pe_eq, pe_eq, hc, up_neg hu, up_neg hv]
  rcases Int.lt_trichotomy (cr u v) 0 with g | g | g
  · have ng : ¬ cr u v > 0 := by omega
    simp only [if_neg ng, if_pos g]
    cases up u <;> cases up v <;> rfl
  · obtain ⟨f, f1, f2⟩ := half hu hg
    have al : Alike u v := by
      refine ⟨dt f v, dt f u, f2, f1, ?_, ?_⟩ <;> (unfold dt cr at *; grind)
    rw [g, al.up]
    simp
  · simp only [gt_iff_lt, if_pos g]
    cases up u <;> cases up v <;> rfl
/-- neighbours in the round of sides -/
theorem sid_goes {l : List Pt} (h : Simple l) : ∀ p ∈ pathE (sid l ++ (sid l).take 1), goesOn p.1 p.2 := by
  cases l with
  | nil => have := h.len; simp at this
  | cons z s =>
    cases s with
    | nil => have := h.len; simp at this
    | cons w r =>
      have hp : ((z, w) :: pathE (w :: r ++ [z])).Pairwise Ok := h.ok
      have gen : ∀ (a b : Pt) (t : List Pt), (pathE (a :: b :: t)).Pairwise Ok → ∀ p ∈ pathE ((pathE (a :: b :: t)).map wayE), goesOn p.1 p.2 := by
        intro a b t
        induction t generalizing a b with
        | nil => intro _ p hp; cases hp
        | cons c t ih =>
          intro hp p hm
          have hp2 : ((a, b) :: (b, c) :: pathE (c :: t)).Pairwise Ok := hp
          obtain ⟨h1, h2⟩ := List.pairwise_cons.mp hp2
          rcases List.mem_cons.mp (show p ∈ (way a b, way b c) :: pathE ((pathE (b :: c :: t)).map wayE) from hm) with g | g
          · rw [g]
            exact (h1 (b, c) (List.mem_cons_self ..)).1 rfl
          · exact ih b c h2 p g
      intro p hm
      have e : sid (z :: w :: r) ++ (sid (z :: w :: r)).take 1 = (pathE (z :: w :: (r ++ [z]))).map wayE ++ [way z w] := rfl
      rw [e] at hm
      -- the last neighbours: side n - 1 and side 0
      have hlast : ∀ (x : List Pt) (y q : Pt), pathE (x ++ [y] ++ [q]) = pathE (x ++ [y]) ++ [(y, q)] := fun x y q => by
        have : x ++ [y] ++ [q] = x ++ y :: [q] := by simp
        rw [this, pathE_append]
        rfl
      have hspl : ∀ (a b : Pt) (t : List Pt) (q : Pt), ∃ x : List Pt, (pathE (a :: b :: t ++ [q])).map wayE = x ++ [way (lastP b t) q] := by
        intro a b t q
        induction t generalizing a b with
        | nil => exact ⟨[way a b], rfl⟩
        | cons c t ih =>
          obtain ⟨x, hx⟩ := ih b c
          refine ⟨way a b :: x, ?_⟩
          show way a b :: (pathE (b :: c :: t ++ [q])).map wayE = _
          rw [hx]
          rfl
      obtain ⟨x, hx⟩ := hspl z w r z
      have hx2 : (pathE (z :: w :: (r ++ [z]))).map wayE = x ++ [way (lastP w r) z] := hx
      rw [hx2, hlast, ← hx2] at hm
      rcases List.mem_append.mp hm with g | g
      · exact gen z w (r ++ [z]) h.ok p g
      · rw [List.mem_singleton.mp g]
        exact closing h
theorem sid_ne {l : List Pt} (h : Simple l) {s : Pt} (hs : s ∈ sid l) : s ≠ (0, 0) := by
  obtain ⟨e, he, rfl⟩ := List.mem_map.mp hs
  exact way_ne (cyc_ne h.nd (by have := h.len; omega) he)
theorem tot_rev {l : List Pt} (h : Simple l) : tot l.reverse = - tot l := by
  cases hl : l with
  | nil => rw [hl] at h; have := h.len; simp at this
  | cons z s =>
    have e0 : tot (z :: s).reverse = tot (z :: s.reverse) := by
      rw [List.reverse_cons, ← tot_rot [z]]
      rfl
    rw [e0]
    unfold tot
    have e1 : sid (z :: s.reverse) = ((sid (z :: s)).map negP).reverse := by
      unfold sid
      rw [cyc_reverse, List.map_reverse, List.map_map, List.map_map]
      congr 1
      refine List.map_congr_left fun e _ => ?_
      show way e.2 e.1 = negP (way e.1 e.2)
      unfold way negP
      exact Prod.ext (by simp only; omega) (by simp only; omega)
    rw [e1]
    have hg := sid_goes h
    have hn := fun s => sid_ne h (s := s)
    rw [hl] at hg hn
    generalize sid (z :: s) = L at *
    cases L with
    | nil => rfl
    | cons a t =>
      -- the reversed round, begun at its last
      have e2 : totS ((a :: t).map negP).reverse = peSum ((a :: t ++ [a]).map negP).reverse := by
        have : ((a :: t).map negP).reverse = (t.map negP).reverse ++ [negP a] := by simp
        rw [this, totS_rot]
        show peSum (negP a :: (t.map negP).reverse ++ [negP a]) = _
        simp
      rw [e2, peSum_rev]
      have e3 : totS (a :: t) = tsum (fun e : Pt × Pt => pe e.1 e.2) (pathE (a :: t ++ [a])) := by
        have : ∀ L : List Pt, peSum L = tsum (fun e : Pt × Pt => pe e.1 e.2) (pathE L) := by
          intro L
          induction L with
          | nil => rfl
          | cons x L ih =>
            cases L with
            | nil => rfl
            | cons y L =>
              show pe x y + peSum (y :: L) = pe x y + tsum _ (pathE (y :: L))
              rw [ih]
        exact this _
      rw [e3]
      have e4 := tsum_cyc (fun v => u01 (up v)) (a :: t)
      have e5 : tsum (fun e : Pt × Pt => pe (negP e.1) (negP e.2)) (pathE (a :: t ++ [a])) = tsum (fun e : Pt × Pt => pe e.1 e.2 + (-1) * (u01 (up e.2) - u01 (up e.1))) (pathE (a :: t ++ [a])) := by
        refine tsum_congr fun e he => ?_
        have m1 : e.1 ∈ a :: t := pathE_mem_fst (l := a :: t) he
        have m2 : e.2 ∈ a :: t := cyc_snd (l := a :: t) he
        rw [pe_neg (hn _ m1) (hn _ m2) (hg e he)]
        omega
      rw [e5, tsum_add, tsum_mul]
      have e6 : tsum (fun e : Pt × Pt => u01 (up e.2) - u01 (up e.1)) (pathE (a :: t ++ [a])) = 0 := e4
      rw [e6]
      omega
theorem tot_area {l : List Pt} (h : Simple l) : (tot l = 1 ∧ 0 < areaL l) ∨ (tot l = -1 ∧ areaL l < 0) := by
  rcases tot_pm h with g | g
  · exact .inl ⟨g, area_pos h g⟩
  · refine .inr ⟨g, ?_⟩
    have := area_pos h.rev (by rw [tot_rev h, g]; rfl)
    rw [areaL_rev] at this
    omega
/-- THE FENCES -/
structure Fen (l : List Pt) : Prop where
  s : Simple l
  a : 0 < areaL l
theorem Fen.tot {l : List Pt} (h : Fen l) : Bay.tot l = 1 := by
  rcases tot_area h.s with g | g
  · exact g.1
  · have := h.a
    omega
theorem Fen.of {l : List Pt} (h : Simple l) : 0 < areaL l ∨ Fen l.reverse := by
  rcases tot_area h with g | g
  · exact .inl g.2
  · exact .inr ⟨h.rev, by rw [areaL_rev]; omega⟩
/-! ## Directions and their order -/
def dirOf (s : Pt) : Pt := (s.1 / (Int.gcd s.1 s.2 : Int), s.2 / (Int.gcd s.1 s.2 : Int))
theorem gcd_pos {s : Pt} (h : s ≠ (0, 0)) : 0 < (Int.gcd s.1 s.2 : Int) := by
  have : Int.gcd s.1 s.2 ≠ 0 := fun e => by
    rw [Int.gcd_eq_zero_iff] at e
    exact h (Prod.ext e.1 e.2)
  omega
theorem dirOf_eq (s : Pt) : s.1 = (Int.gcd s.1 s.2 : Int) * (dirOf s).1 ∧ s.2 = (Int.gcd s.1 s.2 : Int) * (dirOf s).2 := by
  unfold dirOf
  exact ⟨(Int.mul_ediv_cancel' (Int.gcd_dvd_left ..)).symm, (Int.mul_ediv_cancel' (Int.gcd_dvd_right ..)).symm⟩
theorem dirOf_alike {s : Pt} (h : s ≠ (0, 0)) : Alike s (dirOf s) := by
  refine ⟨1, _, by omega, gcd_pos h, ?_, ?_⟩
  · have := (dirOf_eq s).1; omega
  · have := (dirOf_eq s).2; omega
theorem dirOf_mul {k : Int} (hk : 0 < k) (s : Pt) : dirOf (k * s.1, k * s.2) = dirOf s := by
  unfold dirOf
  have e : (Int.gcd (k * s.1) (k * s.2) : Int) = k * (Int.gcd s.1 s.2 : Int) := by
    rw [Int.gcd_mul_left]
    have : ((k.natAbs * Int.gcd s.1 s.2 : Nat) : Int) = (k.natAbs : Int) * (Int.gcd s.1 s.2 : Int) := by simp
    rw [this]
    congr 1
    omega
  simp only [e]
  rw [Int.mul_ediv_mul_of_pos _ _ hk, Int.mul_ediv_mul_of_pos _ _ hk]
theorem Alike.dirOf {s t : Pt} (h : Alike s t) : Bay.dirOf s = Bay.dirOf t := by
  obtain ⟨p, q, hp, hq, h1, h2⟩ := h
  rw [← dirOf_mul hp s, ← dirOf_mul hq t, h1, h2]
theorem Alike.ne {s t : Pt} (h : Alike s t) (hs : s ≠ (0, 0)) : t ≠ (0, 0) := fun e => by
  obtain ⟨p, q, hp, hq, h1, h2⟩ := h
  rw [e] at h1 h2
  simp only [Int.mul_zero] at h1 h2
  refine hs (Prod.ext ?_ ?_)
  · rcases Int.mul_eq_zero.mp h1 with g | g
    · omega
    · exact g
  · rcases Int.mul_eq_zero.mp h2 with g | g
    · omega
    · exact g
/-- a direction -/
def Prim (d : Pt) : Prop := d ≠ (0, 0) ∧ dirOf d = d
theorem dirOf_prim {s : Pt} (h : s ≠ (0, 0)) : Prim (dirOf s) := ⟨(dirOf_alike h).ne h, (dirOf_alike h).dirOf.symm⟩
theorem Alike.eq {a b : Pt} (h : Alike a b) (ha : Prim a) (hb : Prim b) : a = b := by rw [← ha.2, ← hb.2, h.dirOf]
/-- upper ones, weighed, are nothing only by no weights -/
theorem pcone {x y z : Pt} {p q r : Int} (hx : up x = true) (hy : up y = true) (hz : up z = true) (hp : 0 ≤ p) (hq : 0 ≤ q) (hr : 0 ≤ r) (h1 : p * x.1 + q * y.1 + r * z.1 = 0) (h2 : p * x.2 + q * y.2 + r * z.2 = 0) : p = 0 ∧ q = 0 ∧ r = 0 := by
  have ux := up_cases x
  have uy := up_cases y
  have uz := up_cases z
  rw [hx] at ux
  rw [hy] at uy
  rw [hz] at uz
  simp at ux uy uz
  have nn : ∀ {p v : Int}, 0 ≤ p → 0 ≤ v → 0 ≤ p * v := fun a b => Int.mul_nonneg a b
  have a1 := nn hp (show 0 ≤ x.2 by omega)
  have a2 := nn hq (show 0 ≤ y.2 by omega)
  have a3 := nn hr (show 0 ≤ z.2 by omega)
  have z1 : p * x.2 = 0 := by omega
  have z2 : q * y.2 = 0 := by omega
  have z3 : r * z.2 = 0 := by omega
  have one : ∀ {p : Int} {v : Pt}, 0 ≤ p → p * v.2 = 0 → (0 < v.2 ∨ v.2 = 0 ∧ 0 < v.1) → 0 ≤ p * v.1 ∧ (p * v.1 = 0 → p = 0) := fun {p v} hp hz hv => by
    rcases Int.mul_eq_zero.mp hz with g | g
    · rw [g]; simp
    · have hv1 : 0 < v.1 := by omega
      refine ⟨Int.mul_nonneg hp (by omega), fun k => ?_⟩
      rcases Int.mul_eq_zero.mp k with g2 | g2
      · exact g2
      · omega
  have b1 := one hp z1 ux
  have b2 := one hq z2 uy
  have b3 := one hr z3 uz
  exact ⟨b1.2 (by omega), b2.2 (by omega), b3.2 (by omega)⟩
theorem up_negP {v : Pt} (h : v ≠ (0, 0)) (hu : up v = false) : up (negP v) = true := by rw [up_neg h, hu]; rfl
/-- three directions: what goes with the identity  cr a b f = cr f b a + cr a f b -/
theorem three {a b f : Pt} (ha : a ≠ (0, 0)) (hb : b ≠ (0, 0)) (hf : f ≠ (0, 0)) (hc : 0 < cr a b) :
    (up f = true → ¬ ((if up a then cr f b else -cr f b) ≤ 0 ∧ (if up b then cr a f else -cr a f) ≤ 0)) ∧
    (up f = false → ¬ (0 ≤ (if up a then cr f b else -cr f b) ∧ 0 ≤ (if up b then cr a f else -cr a f))) := by
  have i1 : cr a b * f.1 = cr f b * a.1 + cr a f * b.1 := by unfold cr; grind
  have i2 : cr a b * f.2 = cr f b * a.2 + cr a f * b.2 := by unfold cr; grind
  generalize cr a b = C at *
  generalize cr f b = B at *
  generalize cr a f = A at *
  cases ua : up a <;> cases ub : up b <;> cases uf : up f <;> simp only [if_true, if_false, Bool.false_eq_true] <;> refine ⟨fun g => ?_, fun g => ?_⟩ <;> (try cases g) <;> rintro ⟨k1, k2⟩
  all_goals
    have := @pcone (if up a then a else negP a) (if up b then b else negP b) (if up f then f else negP f) (if up f then (if up a then -B else B) else (if up a then B else -B)) (if up f then (if up b then -A else A) else (if up b then A else -A)) C
      (by rw [ua]; first | exact ua | exact up_negP ha ua) (by rw [ub]; first | exact ub | exact up_negP hb ub) (by rw [uf]; first | exact uf | exact up_negP hf uf)
      (by rw [ua, uf]; simp only [if_true, if_false, Bool.false_eq_true]; omega) (by rw [ub, uf]; simp only [if_true, if_false, Bool.false_eq_true]; omega) (by omega)
      (by rw [ua, ub, uf]; simp only [if_true, if_false, Bool.false_eq_true, negP]; grind) (by rw [ua, ub, uf]; simp only [if_true, if_false, Bool.false_eq_true, negP]; grind)
    omega
theorem par_alike {a f : Pt} (ha : a ≠ (0, 0)) (hf : f ≠ (0, 0)) (h0 : cr a f = 0) (hu : up a = up f) : Alike a f := by
  have h1 : ∃ g : Pt, 0 < dt g a ∧ 0 < dt g f := by
    -- both above, or both below
    have key : ∀ {a f : Pt}, up a = true → up f = true → cr a f = 0 → 0 < dt a f := fun {a f} ua uf h0 => by
      have e1 := up_cases a
      have e2 := up_cases f
      rw [ua] at e1
      rw [uf] at e2
      simp at e1 e2
      unfold cr at h0
      unfold dt
      obtain ⟨p, q⟩ := a
      obtain ⟨m, n⟩ := f
      simp only at *
      have sq : ∀ z : Int, 0 ≤ z * z := fun z => by
        rcases Int.le_total 0 z with g | g
        · exact Int.mul_nonneg g g
        · exact Int.mul_nonneg_of_nonpos_of_nonpos g g
      rcases e1 with hq | ⟨hq, hp⟩
      · rcases e2 with hn | ⟨hn, hm⟩
        · have s1 : q * (p * m) = n * (p * p) := by grind
          have s2 := Int.mul_nonneg (Int.le_of_lt hn) (sq p)
          have s3 : 0 ≤ q * (p * m) := by omega
          have s4 : 0 ≤ p * m := by
            rcases Int.lt_or_le (p * m) 0 with g | g
            · have := Int.mul_neg_of_pos_of_neg hq g; omega
            · exact g
          have := Int.mul_pos hq hn
          omega
        · exfalso
          rw [hn] at h0
          have := Int.mul_pos hq hm
          omega
      · rcases e2 with hn | ⟨hn, hm⟩
        · exfalso
          rw [hq] at h0
          have := Int.mul_pos hp hn
          omega
        · rw [hq, hn]
          have := Int.mul_pos hp hm
          omega
    cases ua : up a with
    | true => exact (goesOn_iff ha).mp (.inr (key ua (hu ▸ ua) h0))
    | false =>
      have := key (up_negP ha ua) (up_negP hf (hu ▸ ua)) (by unfold cr negP at *; simp only at *; grind)
      refine (goesOn_iff ha).mp (.inr ?_)
      have e : dt (negP a) (negP f) = dt a f := by unfold dt negP; grind
      omega
  obtain ⟨g, g1, g2⟩ := h1
  refine ⟨dt g f, dt g a, g2, g1, ?_, ?_⟩ <;> (unfold dt cr at *; grind)
theorem cr_self (a : Pt) : cr a a = 0 := by unfold cr; grind
/-! ### numbers of directions -/
def num (D : List Pt) (d : Pt) : Int := tsum (fun f => u01 (ahead f d)) D
def intr (D : List Pt) (a b : Pt) : Int := tsum (fun f => u01 (decide (0 < cr a f) && decide (0 < cr f b))) D
def dl (D : List Pt) (a b : Pt) : Int := if 0 < cr a b then 1 + intr D a b else if cr a b < 0 then -(1 + intr D b a) else 0
theorem step_pt {a b f : Pt} (ha : Prim a) (hb : Prim b) (hf : Prim f) (hc : 0 < cr a b) :
    u01 (ahead f b) - u01 (ahead f a) + pe a b = u01 (decide (f = a)) + u01 (decide (0 < cr a f) && decide (0 < cr f b)) := by
  have t := three ha.1 hb.1 hf.1 hc
  have hAB : cr a f = 0 → up a = up f → f = a := fun h0 hu => ((par_alike ha.1 hf.1 h0 hu).eq ha hf).symm
  have hne : up a ≠ up f → f ≠ a := fun h e => h (by rw [e])
  have hfa : f = a → cr a f = 0 ∧ cr f b = cr a b := fun e => by rw [e]; exact ⟨cr_self a, rfl⟩
  have e1 : cr f a = - cr a f := cr_anti a f
  rw [pe_eq, if_pos hc]
  unfold ahead
  rw [e1]
  have hA : cr a f = 0 → cr f b = cr a b ∨ up a ≠ up f := fun h0 => by
    by_cases hu : up a = up f
    · exact .inl (hfa (hAB h0 hu)).2
    · exact .inr hu
  generalize cr a f = A at *
  generalize cr f b = B at *
  generalize cr a b = C at *
  cases ua : up a <;> cases ub : up b <;> cases uf : up f <;> rw [ua, uf] at hAB hne hA <;> rw [ua, ub] at t <;> rw [uf] at t <;> simp at t hAB hne hA <;> simp [u01]
  all_goals
    by_cases hfe : f = a
    · have := hfa hfe
      simp [hfe]
      try (exact absurd hfe hne)
      try (split <;> split <;> omega)
      try (split <;> omega)
      try omega
    · simp [hfe]
      have hA0 : A ≠ 0 ∨ True := .inr trivial
      try (have hA1 : A ≠ 0 := fun h => hfe (hAB h))
      by_cases c1 : 0 < A <;> by_cases c2 : A < 0 <;> by_cases c3 : 0 < B <;> simp [c1, c2, c3] <;> omega
/-! ## The order of a set of directions -/
theorem ahead_irrefl (a : Pt) : ahead a a = false := by
  unfold ahead
  simp [cr_self]
theorem ahead_trans {a b c : Pt} (ha : a ≠ (0, 0)) (hb : b ≠ (0, 0)) (hc : c ≠ (0, 0)) (h1 : ahead a b = true) (h2 : ahead b c = true) : ahead a c = true := by
  unfold ahead at *
  cases ua : up a <;> cases ub : up b <;> cases uc : up c <;> rw [ua, ub] at h1 <;> rw [ub, uc] at h2 <;> simp at h1 h2 ⊢
  · -- all below
    rcases Int.lt_or_le 0 (cr a c) with g | g
    · exact g
    · exfalso
      have := @pcone (negP a) (negP b) (negP c) (cr b c) (-cr a c) (cr a b) (up_negP ha ua) (up_negP hb ub) (up_negP hc uc) (by omega) (by omega) (by omega)
        (by unfold cr negP; simp only; grind) (by unfold cr negP; simp only; grind)
      omega
  · rcases Int.lt_or_le 0 (cr a c) with g | g
    · exact g
    · exfalso
      have := @pcone a b c (cr b c) (-cr a c) (cr a b) ua ub uc (by omega) (by omega) (by omega)
        (by unfold cr; grind) (by unfold cr; grind)
      omega
theorem ahead_total {a b : Pt} (ha : Prim a) (hb : Prim b) (h : a ≠ b) : ahead a b = true ∨ ahead b a = true := by
  unfold ahead
  have e := cr_anti a b
  cases ua : up a <;> cases ub : up b <;> simp
  all_goals
    rcases Int.lt_trichotomy (cr a b) 0 with g | g | g
    · right; omega
    · exact absurd ((par_alike ha.1 hb.1 g (by rw [ua, ub])).eq ha hb) h
    · left; exact g
theorem ahead_asymm {a b : Pt} (h : ahead a b = true) : ahead b a = false := by
  unfold ahead at *
  have e := cr_anti a b
  cases ua : up a <;> cases ub : up b <;> rw [ua, ub] at h <;> simp at h ⊢
  · omega
  · omega
theorem u01_nonneg (b : Bool) : 0 ≤ u01 b := by cases b <;> decide
theorem u01_le (b : Bool) : u01 b ≤ 1 := by cases b <;> decide
section
variable {α : Type}
theorem tsum_le {g k : α → Int} : ∀ {l : List α}, (∀ a ∈ l, g a ≤ k a) → tsum g l ≤ tsum k l
  | [], _ => Int.le_refl _
  | x :: l, h => by
    have h1 := h x (List.mem_cons_self ..)
    have h2 := tsum_le fun a ha => h a (List.mem_cons_of_mem _ ha)
    show g x + tsum g l ≤ k x + tsum k l
    omega
theorem tsum_lt {g k : α → Int} {l : List α} (h : ∀ a ∈ l, g a ≤ k a) {b : α} (hb : b ∈ l) (hlt : g b < k b) : tsum g l < tsum k l := by
  induction l with
  | nil => cases hb
  | cons x l ih =>
    have h1 := h x (List.mem_cons_self ..)
    have h2 := tsum_le fun a ha => h a (List.mem_cons_of_mem _ ha)
    show g x + tsum g l < k x + tsum k l
    rcases List.mem_cons.mp hb with e | e
    · rw [← e] at *; omega
    · have := ih (fun a ha => h a (List.mem_cons_of_mem _ ha)) e
      omega
theorem tsum_one : ∀ l : List α, tsum (fun _ => 1) l = (l.length : Int)
  | [] => rfl
  | x :: l => by
    show 1 + tsum (fun _ => 1) l = _
    rw [tsum_one l, List.length_cons]
    omega
theorem tsum_const (c : Int) (l : List α) : tsum (fun _ => c) l = c * (l.length : Int) := by
  have := tsum_mul c (fun _ : α => (1 : Int)) l
  rw [tsum_one] at this
  rw [← this]
  exact tsum_congr fun _ _ => by omega
theorem tsum_eq_of_mem [DecidableEq α] {a : α} : ∀ {l : List α}, l.Nodup → a ∈ l → tsum (fun f => u01 (decide (f = a))) l = 1
  | x :: l, hn, h => by
    obtain ⟨n1, n2⟩ := List.nodup_cons.mp hn
    show u01 (decide (x = a)) + tsum _ l = 1
    rcases List.mem_cons.mp h with e | e
    · subst e
      rw [tsum_zero fun f hf => ?_]
      · simp [u01]
      · have : f ≠ a := fun k => n1 (k ▸ hf)
        simp [u01, this]
    · have : x ≠ a := fun k => n1 (k ▸ e)
      rw [tsum_eq_of_mem n2 e]
      simp [u01, this]
end
/-- a set of directions -/
structure Dirs (D : List Pt) : Prop where
  nd : D.Nodup
  pr : ∀ d ∈ D, Prim d
theorem num_lt {D : List Pt} (h : Dirs D) {a b : Pt} (ha : a ∈ D) (hb : b ∈ D) (hab : ahead a b = true) : num D a < num D b := by
  refine tsum_lt (fun f hf => ?_) ha ?_
  · cases c : ahead f a with
    | false => exact u01_nonneg _
    | true =>
      rw [ahead_trans (h.pr f hf).1 (h.pr a ha).1 (h.pr b hb).1 c hab]
      exact Int.le_refl _
  · rw [ahead_irrefl, hab]
    decide
theorem num_lt_iff {D : List Pt} (h : Dirs D) {a b : Pt} (ha : a ∈ D) (hb : b ∈ D) : num D a < num D b ↔ ahead a b = true := by
  constructor
  · intro hlt
    by_cases e : a = b
    · rw [e] at hlt; omega
    · rcases ahead_total (h.pr a ha) (h.pr b hb) e with g | g
      · exact g
      · have := num_lt h hb ha g; omega
  · exact num_lt h ha hb
theorem num_inj {D : List Pt} (h : Dirs D) {a b : Pt} (ha : a ∈ D) (hb : b ∈ D) (e : num D a = num D b) : a = b := by
  apply Classical.byContradiction
  intro hne
  rcases ahead_total (h.pr a ha) (h.pr b hb) hne with g | g
  · have := num_lt h ha hb g; omega
  · have := num_lt h hb ha g; omega
theorem num_range {D : List Pt} (h : Dirs D) {a : Pt} (ha : a ∈ D) : 0 ≤ num D a ∧ num D a < (D.length : Int) := by
  refine ⟨tsum_nonneg fun _ _ => u01_nonneg _, ?_⟩
  rw [← tsum_one]
  refine tsum_lt (fun f _ => u01_le _) ha ?_
  rw [ahead_irrefl]
  decide
/-! ### numbers that fill a range -/
theorem nodup_le : ∀ (n : Nat) (l : List Nat), l.Nodup → (∀ x ∈ l, x < n) → l.length ≤ n
  | 0, l, _, h => by
    cases l with
    | nil => exact Nat.le_refl _
    | cons x l => exact absurd (h x (List.mem_cons_self ..)) (Nat.not_lt_zero _)
  | n + 1, l, hn, h => by
    by_cases hm : n ∈ l
    · obtain ⟨s, t, e⟩ := List.append_of_mem hm
      have hp : l.Perm (n :: (s ++ t)) := by rw [e]; exact List.perm_middle
      have h2 := List.nodup_cons.mp (hp.nodup_iff.mp hn)
      have ih := nodup_le n (s ++ t) h2.2 fun x hx => by
        have := h x (hp.symm.subset (List.mem_cons_of_mem _ hx))
        have : x ≠ n := fun k => h2.1 (k ▸ hx)
        omega
      have := hp.length_eq
      simp only [List.length_cons] at this
      omega
    · have ih := nodup_le n l hn fun x hx => by
        have := h x hx
        have : x ≠ n := fun k => hm (k ▸ hx)
        omega
      omega
theorem nodup_full {n : Nat} {l : List Nat} (hn : l.Nodup) (h : ∀ x ∈ l, x < n) (hl : l.length = n) {k : Nat} (hk : k < n) : k ∈ l := by
  apply Classical.byContradiction
  intro hm
  have := nodup_le n (k :: l) (List.nodup_cons.mpr ⟨hm, hn⟩) fun x hx => by
    rcases List.mem_cons.mp hx with e | e
    · rw [e]; exact hk
    · exact h x e
  simp only [List.length_cons] at this
  omega
theorem num_surj {D : List Pt} (h : Dirs D) {k : Int} (h0 : 0 ≤ k) (hk : k < (D.length : Int)) : ∃ d ∈ D, num D d = k := by
  have hn : (D.map fun d => (num D d).toNat).Nodup := by
    refine List.pairwise_map.mpr ?_
    refine List.Pairwise.imp_of_mem ?_ h.nd
    intro a b ha hb hab e
    have r1 := num_range h ha
    have r2 := num_range h hb
    exact hab (num_inj h ha hb (by omega))
  have := nodup_full hn (n := D.length) (fun x hx => by
    obtain ⟨d, hd, rfl⟩ := List.mem_map.mp hx
    have := num_range h hd
    omega) (by rw [List.length_map]) (k := k.toNat) (by omega)
  obtain ⟨d, hd, e⟩ := List.mem_map.mp this
  have := num_range h hd
  exact ⟨d, hd, by omega⟩
/-! ### steps of rank -/
theorem pe_anti (a b : Pt) : pe b a = - pe a b := by
  rw [pe_eq, pe_eq, cr_anti a b]
  rcases Int.lt_trichotomy (cr a b) 0 with g | g | g
  · have n1 : ¬ cr a b > 0 := by omega
    have n2 : -cr a b > 0 := by omega
    rw [if_pos n2, if_neg n1, if_pos g]
    split <;> rfl
  · rw [g]; rfl
  · have n1 : ¬ -cr a b > 0 := by omega
    have n2 : -cr a b < 0 := by omega
    rw [if_neg n1, if_pos n2, if_pos g]
    split <;> rfl
theorem step_pos {D : List Pt} (h : Dirs D) {a b : Pt} (ha : a ∈ D) (hb : b ∈ D) (hc : 0 < cr a b) : num D b - num D a + (D.length : Int) * pe a b = 1 + intr D a b := by
  have e1 : tsum (fun f => u01 (ahead f b) - u01 (ahead f a) + pe a b) D = tsum (fun f => u01 (decide (f = a)) + u01 (decide (0 < cr a f) && decide (0 < cr f b))) D :=
    tsum_congr fun f hf => step_pt (h.pr a ha) (h.pr b hb) (h.pr f hf) hc
  have e2 : tsum (fun f => u01 (ahead f b) - u01 (ahead f a) + pe a b) D = num D b - num D a + (D.length : Int) * pe a b := by
    have : tsum (fun f => u01 (ahead f b) - u01 (ahead f a) + pe a b) D = tsum (fun f => u01 (ahead f b) + ((-1) * u01 (ahead f a) + pe a b)) D := tsum_congr fun f _ => by omega
    rw [this, tsum_add, tsum_add, tsum_mul, tsum_const, Int.mul_comm (pe a b)]
    unfold num
    omega
  have e3 := tsum_add (fun f => u01 (decide (f = a))) (fun f => u01 (decide (0 < cr a f) && decide (0 < cr f b))) D
  rw [tsum_eq_of_mem h.nd ha] at e3
  exact e2.symm.trans (e1.trans e3)
theorem step {D : List Pt} (h : Dirs D) {a b : Pt} (ha : a ∈ D) (hb : b ∈ D) (hg : goesOn a b) : num D b - num D a + (D.length : Int) * pe a b = dl D a b := by
  unfold dl
  rcases Int.lt_trichotomy (cr a b) 0 with g | g | g
  · have n1 : ¬ 0 < cr a b := by omega
    rw [if_neg n1, if_pos g]
    have := step_pos h hb ha (by rw [cr_anti a b]; omega)
    rw [pe_anti a b, Int.mul_neg] at this
    omega
  · obtain ⟨f, f1, f2⟩ := half (h.pr a ha).1 hg
    have al : Alike a b := by
      refine ⟨dt f b, dt f a, f2, f1, ?_, ?_⟩ <;> (unfold dt cr at *; grind)
    have e := al.eq (h.pr a ha) (h.pr b hb)
    subst e
    rw [pe_eq, g]
    simp
  · rw [if_pos g]
    exact step_pos h ha hb g
/-! ### the four quarters, from south on -/
def lexpos (v : Pt) : Bool := decide (0 < v.1) || (decide (v.1 = 0) && decide (0 < v.2))
/-- behind south and ahead of east -/
def late (v : Pt) : Bool := lexpos v && !up v
theorem late_last {a b : Pt} (ha : a ≠ (0, 0)) (h1 : late a = false) (h2 : late b = true) : ahead a b = true := by
  have hn : a.1 ≠ 0 ∨ a.2 ≠ 0 := by
    by_cases c : a.1 = 0
    · right; intro c2; exact ha (Prod.ext c c2)
    · left; exact c
  have hb : 0 < b.1 ∧ b.2 < 0 := by
    unfold late lexpos up at h2
    simp at h2
    omega
  unfold ahead
  have ub : up b = false := by
    unfold late at h2
    simp at h2
    exact h2.2
  cases ua : up a with
  | true => rw [ub]; rfl
  | false =>
    rw [ub]
    simp
    have hl : a.1 < 0 ∧ a.2 ≤ 0 ∨ a.1 = 0 ∧ a.2 < 0 := by
      unfold late lexpos at h1
      rw [ua] at h1
      unfold up at ua
      simp at h1 ua
      omega
    unfold cr
    rcases hl with ⟨g1, g2⟩ | ⟨g1, g2⟩
    · have := Int.mul_pos_of_neg_of_neg g1 hb.2
      have := Int.mul_nonpos_of_nonpos_of_nonneg g2 (Int.le_of_lt hb.1)
      omega
    · rw [g1]
      have := Int.mul_neg_of_neg_of_pos g2 hb.1
      omega
/-- upper ones: those of greater x come first -/
theorem first_quarter {a b : Pt} (hb : b ≠ (0, 0)) (ua : up a = true) (ub : up b = true) (h1 : lexpos a = true) (h2 : lexpos b = false) : ahead a b = true := by
  unfold ahead
  rw [ua, ub]
  simp
  have e1 := up_cases a
  have e2 := up_cases b
  rw [ua] at e1
  rw [ub] at e2
  simp at e1 e2
  unfold lexpos at h1 h2
  simp at h1 h2
  have b2 : 0 < b.2 ∧ b.1 < 0 := by omega
  have a1 : 0 ≤ a.1 ∧ 0 ≤ a.2 := by omega
  unfold cr
  have p1 := Int.mul_nonneg a1.1 (Int.le_of_lt b2.1)
  have p2 := Int.mul_nonpos_of_nonneg_of_nonpos a1.2 (Int.le_of_lt b2.2)
  rcases Int.lt_or_le 0 a.1 with g | g
  · have := Int.mul_pos g b2.1
    omega
  · have : 0 < a.2 := by omega
    have := Int.mul_neg_of_pos_of_neg this b2.2
    omega
/-- where the sides turn east again: only behind the last one up to south -/
theorem turns_east {D : List Pt} (h : Dirs D) {a b : Pt} (ha : a ∈ D) (hb : b ∈ D) (hn : num D b = num D a + 1 ∨ (num D a = (D.length : Int) - 1 ∧ num D b = 0)) (h1 : lexpos a = false) (h2 : lexpos b = true) :
    num D b = tsum (fun f => u01 (!late f)) D ∨ (num D b = 0 ∧ tsum (fun f => u01 (!late f)) D = (D.length : Int)) := by
  have la : late a = false := by unfold late; rw [h1]; rfl
  rcases hn with hn | ⟨hn, hn0⟩
  · have hab := (num_lt_iff h ha hb).mp (by omega)
    have lb : late b = true := by
      unfold late
      rw [h2]
      cases ub : up b with
      | false => rfl
      | true =>
        exfalso
        cases ua : up a with
        | true =>
          have := first_quarter (h.pr a ha).1 ub ua h2 h1
          have := ahead_asymm hab
          simp_all
        | false =>
          unfold ahead at hab
          rw [ua, ub] at hab
          simp at hab
    left
    refine tsum_congr fun f hf => ?_
    congr 1
    cases lf : late f with
    | false => exact late_last (h.pr f hf).1 lf lb
    | true =>
      have h3 := late_last (h.pr a ha).1 la lf
      have h4 := num_lt h ha hf h3
      cases c : ahead f b with
      | false => rfl
      | true => have := num_lt h hf hb c; omega
  · right
    refine ⟨hn0, ?_⟩
    rw [← tsum_one]
    refine tsum_congr fun f hf => ?_
    cases lf : late f with
    | false => rfl
    | true =>
      have h4 := num_lt h ha hf (late_last (h.pr a ha).1 la lf)
      have := num_range h hf
      omega
/-- two directions that follow one another in the round are unlike and not opposite, if the sides turn about -/
theorem next_cross {D : List Pt} (h : Dirs D) {a b : Pt} (ha : a ∈ D) (hb : b ∈ D) (hn : num D b = num D a + 1 ∨ (num D a = (D.length : Int) - 1 ∧ num D b = 0)) (h0 : cr a b = 0) : ∀ f ∈ D, cr a f ≤ 0 := by
  intro f hf
  apply Classical.byContradiction
  intro hp
  have hp : 0 < cr a f := by omega
  by_cases e : a = b
  · -- only one direction stands
    subst e
    have hr := num_range h hf
    have : num D a = 0 ∧ (D.length : Int) = 1 := by omega
    have : f = a := num_inj h hf ha (by omega)
    rw [this, cr_self] at hp
    omega
  · have hu : up a ≠ up b := fun hu => e ((par_alike (h.pr a ha).1 (h.pr b hb).1 h0 hu).eq (h.pr a ha) (h.pr b hb))
    have rf := num_range h hf
    -- b is opposite
    have al : Alike (negP a) b := by
      refine par_alike ?_ (h.pr b hb).1 (by unfold cr negP at *; simp only at *; grind) ?_
      · intro k
        have := congrArg Prod.fst k
        have := congrArg Prod.snd k
        unfold negP at *
        simp only at *
        exact (h.pr a ha).1 (Prod.ext (by simp only; omega) (by simp only; omega))
      · rw [up_neg (h.pr a ha).1]
        cases ua : up a <;> cases ub : up b <;> rw [ua, ub] at hu <;> simp at hu ⊢
    have hfb : 0 < cr f b := by
      have := (al.crs f).2.1.mp (by unfold cr negP at *; simp only at *; grind)
      rw [cr_anti b f]
      omega
    have ab1 : ahead f b = true ∨ up f ≠ up b := by
      by_cases c : up f = up b
      · left; unfold ahead; rw [c]; simp; exact hfb
      · exact .inr c
    have ab2 : ahead a f = true ∨ up a ≠ up f := by
      by_cases c : up a = up f
      · left; unfold ahead; rw [c]; simp; exact hp
      · exact .inr c
    cases ua : up a with
    | true =>
      have ub : up b = false := by cases ub : up b <;> simp_all
      have hab : ahead a b = true := by unfold ahead; rw [ua, ub]; rfl
      have l := num_lt h ha hb hab
      have l1 : ahead a f = true := by
        cases uf : up f with
        | true => rcases ab2 with g | g; exact g; rw [ua, uf] at g; exact absurd rfl g
        | false => unfold ahead; rw [ua, uf]; rfl
      have l2 : ahead f b = true := by
        cases uf : up f with
        | true => unfold ahead; rw [ub, uf]; rfl
        | false => rcases ab1 with g | g; exact g; rw [ub, uf] at g; exact absurd rfl g
      have := num_lt h ha hf l1
      have := num_lt h hf hb l2
      omega
    | false =>
      have ub : up b = true := by cases ub : up b <;> simp_all
      have hba : ahead b a = true := by unfold ahead; rw [ua, ub]; rfl
      have l := num_lt h hb ha hba
      cases uf : up f with
      | true =>
        have : ahead f b = true := by rcases ab1 with g | g; exact g; rw [ub, uf] at g; exact absurd rfl g
        have := num_lt h hf hb this
        omega
      | false =>
        have : ahead a f = true := by rcases ab2 with g | g; exact g; rw [ua, uf] at g; exact absurd rfl g
        have := num_lt h ha hf this
        omega
/-! ## Places -/
def kk (n : Nat) (m : Int) (r : Nat → Int) (i j : Nat) : Int := (r i - r j) / m + u01 (decide (0 < (r i - r j) % m) || decide ((j : Int) + (r i - r j) / m * (n : Int) < (i : Int)))
/-- i, a rounds on, stands ahead of j, b rounds on -/
def Bf (n : Nat) (m : Int) (r : Nat → Int) (i : Nat) (a : Int) (j : Nat) (b : Int) : Prop := r i + a * m < r j + b * m ∨ (r i + a * m = r j + b * m ∧ (i : Int) + a * (n : Int) < (j : Int) + b * (n : Int))
section
variable {n : Nat} {m : Int} {r : Nat → Int}
theorem kk_spec (hm : 0 < m) (i j : Nat) (a k : Int) : Bf n m r j k i a ↔ k < kk n m r i j + a := by
  unfold Bf kk
  have e := Int.mul_ediv_add_emod (r i - r j) m
  have t0 := Int.emod_nonneg (r i - r j) (show m ≠ 0 by omega)
  have t1 := Int.emod_lt_of_pos (r i - r j) hm
  generalize (r i - r j) / m = q at *
  generalize (r i - r j) % m = t at *
  have e1 : k * m - a * m = (k - a) * m := by grind
  have e2 : k * (n : Int) - a * (n : Int) = (k - a) * (n : Int) := by grind
  have e3 : m * q = q * m := Int.mul_comm ..
  rcases Int.lt_trichotomy (k - a) q with g | g | g
  · have := Int.mul_nonneg (show 0 ≤ q - (k - a) - 1 by omega) (Int.le_of_lt hm)
    have e4 : (q - (k - a) - 1) * m = q * m - (k - a) * m - m := by grind
    have := u01_nonneg (decide (0 < t) || decide ((j : Int) + q * (n : Int) < (i : Int)))
    constructor
    · intro _; omega
    · intro _; left; omega
  · rw [g] at e1 e2
    by_cases c : 0 < t
    · simp [u01, c]
      constructor
      · intro _; omega
      · intro _; left; omega
    · have c0 : t = 0 := by omega
      simp [u01, c]
      by_cases d : (j : Int) + q * (n : Int) < (i : Int)
      · simp [d]
        constructor
        · intro _; omega
        · intro _; right; constructor <;> omega
      · simp [d]
        constructor
        · rintro (h | ⟨h1, h2⟩)
          · omega
          · omega
        · intro h; omega
  · have := Int.mul_nonneg (show 0 ≤ (k - a) - q - 1 by omega) (Int.le_of_lt hm)
    have e4 : ((k - a) - q - 1) * m = (k - a) * m - q * m - m := by grind
    have := u01_le (decide (0 < t) || decide ((j : Int) + q * (n : Int) < (i : Int)))
    constructor
    · rintro (h | ⟨h1, h2⟩) <;> omega
    · intro h; omega
theorem Bf.trans {i j k : Nat} {a b c : Int} (h1 : Bf n m r i a j b) (h2 : Bf n m r j b k c) : Bf n m r i a k c := by
  unfold Bf at *
  omega
def found (n : Nat) (m : Int) (r : Nat → Int) (i : Nat) : Int := tsum (fun j => kk n m r i j) (List.range n)
/-- places, numbered in the order of the sides -/
def Pl (n : Nat) (m : Int) (r P : Nat → Int) : Prop := ∀ i j a b, i < n → j < n → Bf n m r i a j b → P i + a * (n : Int) < P j + b * (n : Int)
theorem found_pl (hm : 0 < m) (less : Int) : Pl n m r (fun i => found n m r i - less) := by
  intro i j a b hi hj h
  have h1 : tsum (fun l => kk n m r i l + a) (List.range n) < tsum (fun l => kk n m r j l + b) (List.range n) := by
    refine tsum_lt (fun l hl => ?_) (List.mem_range.mpr hi) ?_
    · have h3 : Bf n m r l (kk n m r i l + a - 1) i a := (kk_spec hm i l a _).mpr (by omega)
      have := (kk_spec hm j l b _).mp (h3.trans h)
      omega
    · have h3 := (kk_spec hm j i b a).mp h
      have h4 : ¬ Bf n m r i a i a := by unfold Bf; omega
      have h5 : ¬ a < kk n m r i i + a := fun k => h4 ((kk_spec hm i i a a).mpr k)
      omega
  rw [tsum_add, tsum_add, tsum_const, tsum_const, List.length_range] at h1
  show tsum (kk n m r i) (List.range n) - less + a * (n : Int) < tsum (kk n m r j) (List.range n) - less + b * (n : Int)
  omega
theorem Bf.total {i j : Nat} {a b : Int} (hi : i < n) (hj : j < n) (h : ¬ (i = j ∧ a = b)) : Bf n m r i a j b ∨ Bf n m r j b i a := by
  unfold Bf
  by_cases c : r i + a * m = r j + b * m
  · have : (i : Int) + a * (n : Int) ≠ (j : Int) + b * (n : Int) := fun e => by
      have e2 : (b - a) * (n : Int) = (i : Int) - j := by grind
      rcases Int.lt_trichotomy (b - a) 0 with g | g | g
      · have := Int.mul_nonneg (show 0 ≤ -(b - a) - 1 by omega) (show (0 : Int) ≤ n by omega)
        have e3 : (-(b - a) - 1) * (n : Int) = -((b - a) * n) - n := by grind
        omega
      · rw [g] at e2; exact h ⟨by omega, by omega⟩
      · have := Int.mul_nonneg (show 0 ≤ (b - a) - 1 by omega) (show (0 : Int) ≤ n by omega)
        have e3 : ((b - a) - 1) * (n : Int) = ((b - a) * n) - n := by grind
        omega
    omega
  · omega
theorem Pl.iff {P : Nat → Int} (h : Pl n m r P) {i j : Nat} {a b : Int} (hi : i < n) (hj : j < n) : Bf n m r i a j b ↔ P i + a * (n : Int) < P j + b * (n : Int) := by
  constructor
  · exact h i j a b hi hj
  · intro hlt
    by_cases e : i = j ∧ a = b
    · rw [e.1, e.2] at hlt; omega
    · rcases Bf.total (r := r) (m := m) hi hj e with g | g
      · exact g
      · have := h j i b a hj hi g; omega
theorem Pl.inj {P : Nat → Int} (h : Pl n m r P) {i j : Nat} {a b : Int} (hi : i < n) (hj : j < n) (e : P i + a * (n : Int) = P j + b * (n : Int)) : i = j ∧ a = b := by
  apply Classical.byContradiction
  intro hne
  rcases Bf.total (r := r) (m := m) hi hj hne with g | g
  · have := h i j a b hi hj g; omega
  · have := h j i b a hj hi g; omega
/-- each place is taken -/
theorem Pl.at_ {P : Nat → Int} (h : Pl n m r P) (hn : 0 < n) : ∃ (ix : Int → Nat) (sh : Int → Int), ∀ T, ix T < n ∧ P (ix T) = T + sh T * (n : Int) := by
  have hnd : ((List.range n).map fun i => (P i % (n : Int)).toNat).Nodup := by
    refine List.pairwise_map.mpr ?_
    refine List.Pairwise.imp_of_mem ?_ List.nodup_range
    intro i j hi hj hij e
    have hi := List.mem_range.mp hi
    have hj := List.mem_range.mp hj
    have r1 := Int.emod_nonneg (P i) (show (n : Int) ≠ 0 by omega)
    have r2 := Int.emod_nonneg (P j) (show (n : Int) ≠ 0 by omega)
    have d1 := Int.mul_ediv_add_emod (P i) n
    have d2 := Int.mul_ediv_add_emod (P j) n
    have e1 : P i % (n : Int) = P j % (n : Int) := by omega
    have := h.inj (a := P j / n) (b := P i / n) hi hj (by grind)
    exact hij this.1
  have hT : ∀ T : Int, ∃ p : Nat × Int, p.1 < n ∧ P p.1 = T + p.2 * (n : Int) := fun T => by
    have t0 := Int.emod_nonneg T (show (n : Int) ≠ 0 by omega)
    have t1 := Int.emod_lt_of_pos T (show (0 : Int) < n by omega)
    have hm := nodup_full hnd (n := n) (fun x hx => by
      obtain ⟨i, hi, rfl⟩ := List.mem_map.mp hx
      have r1 := Int.emod_nonneg (P i) (show (n : Int) ≠ 0 by omega)
      have r2 := Int.emod_lt_of_pos (P i) (show (0 : Int) < n by omega)
      omega) (by rw [List.length_map, List.length_range]) (k := (T % (n : Int)).toNat) (by omega)
    obtain ⟨i, hi, e⟩ := List.mem_map.mp hm
    have r1 := Int.emod_nonneg (P i) (show (n : Int) ≠ 0 by omega)
    have d1 := Int.mul_ediv_add_emod (P i) n
    have d2 := Int.mul_ediv_add_emod T n
    refine ⟨(i, P i / n - T / n), List.mem_range.mp hi, ?_⟩
    have e2 : P i % (n : Int) = T % (n : Int) := by omega
    simp only
    grind
  exact ⟨fun T => (Classical.choose (hT T)).1, fun T => (Classical.choose (hT T)).2, fun T => Classical.choose_spec (hT T)⟩
end
/-- divided, rounded up -/
def cdiv (x m : Int) : Int := -((-x) / m)
theorem lt_cdiv {x m k : Int} (hm : 0 < m) : k < cdiv x m ↔ k * m < x := by
  unfold cdiv
  have h : (-x) / m < -k ↔ -x < -k * m := Int.ediv_lt_iff_lt_mul hm
  have e : -k * m = -(k * m) := by grind
  constructor
  · intro g
    have := h.mp (by omega)
    omega
  · intro g
    have := h.mpr (by omega)
    omega
theorem cdiv_eq {x m y l : Int} (hm : 0 < m) (hl : 0 < l) (h : ∀ k, k * m < x ↔ k * l < y) : cdiv x m = cdiv y l := by
  rcases Int.lt_trichotomy (cdiv x m) (cdiv y l) with g | g | g
  · have h1 := (lt_cdiv hl).mp g
    have h2 := (lt_cdiv hm).mpr ((h _).mpr h1)
    omega
  · exact g
  · have h1 := (lt_cdiv hm).mp g
    have h2 := (lt_cdiv hl).mpr ((h _).mp h1)
    omega
theorem cdiv_one {p m : Int} (hm : 0 < m) (k : Int) : cdiv (p + k * m) m = cdiv p m + k := by
  have : ∀ j, j < cdiv (p + k * m) m ↔ j < cdiv p m + k := fun j => by
    rw [lt_cdiv hm]
    have h2 : j < cdiv p m + k ↔ j - k < cdiv p m := by omega
    rw [h2, lt_cdiv hm]
    have : (j - k) * m = j * m - k * m := by grind
    omega
  have h1 := this (cdiv p m + k)
  have h2 := this (cdiv (p + k * m) m)
  omega
/-- by a place within the round -/
theorem cdiv_place {p t : Int} {n : Int} (hn : 0 < n) (t0 : 0 ≤ t) (tn : t ≤ n) : cdiv (t - p) n = -(p / n) + u01 (decide (p % n < t)) := by
  have d := Int.mul_ediv_add_emod p n
  have r0 := Int.emod_nonneg p (show n ≠ 0 by omega)
  have r1 := Int.emod_lt_of_pos p hn
  have e : t - p = (t - p % n) + (-(p / n)) * n := by grind
  rw [e, cdiv_one hn]
  have : cdiv (t - p % n) n = u01 (decide (p % n < t)) := by
    by_cases c : p % n < t
    · have h1 := (lt_cdiv (x := t - p % n) (k := 0) hn).mpr (by omega)
      have h2 : ¬ 1 < cdiv (t - p % n) n := fun h => by
        have := (lt_cdiv hn).mp h; omega
      simp [u01, c]; omega
    · have h1 : ¬ 0 < cdiv (t - p % n) n := fun h => by
        have := (lt_cdiv hn).mp h; omega
      have h2 := (lt_cdiv (x := t - p % n) (k := -1) hn).mpr (by omega)
      simp [u01, c]; omega
  omega
theorem tsum_single (n k : Nat) (c : Int) (hk : k < n) : tsum (fun i => if i = k then c else 0) (List.range n) = c := by
  induction n with
  | zero => omega
  | succ n ih =>
    rw [tsum_range_succ]
    by_cases e : k = n
    · rw [if_pos e.symm, tsum_zero fun i hi => ?_]
      · omega
      · have := List.mem_range.mp hi
        rw [if_neg (by omega)]
    · rw [ih (by omega), if_neg (by omega)]
      omega
/-! ### the sorted row and its corners -/
section
variable {n : Nat} {m : Int} {r P : Nat → Int}
/-- one coordinate of the field's corners, by rank -/
def VV (n : Nat) (m : Int) (r : Nat → Int) (x0 : Int) (c : Nat → Int) (t : Int) : Int := x0 + tsum (fun i => cdiv (t - r i) m * c i) (List.range n)
/-- one coordinate of the corners of the sorted row -/
def QQ (n : Nat) (P : Nat → Int) (x0 : Int) (c : Nat → Int) (ix : Int → Nat) (t : Nat) : Int := x0 - tsum (fun i => P i / (n : Int) * c i) (List.range n) + tsum (fun u : Nat => c (ix (u : Int))) (List.range t)
theorem qq_eq (h : Pl n m r P) (hn : 0 < n) {ix : Int → Nat} {sh : Int → Int} (hx : ∀ T, ix T < n ∧ P (ix T) = T + sh T * (n : Int)) (x0 : Int) (c : Nat → Int) : ∀ t : Nat, t ≤ n →
    QQ n P x0 c ix t = x0 + tsum (fun i => cdiv ((t : Int) - P i) n * c i) (List.range n) := by
  intro t ht
  have h1 : tsum (fun i => cdiv ((t : Int) - P i) n * c i) (List.range n) = tsum (fun i => (-1) * (P i / (n : Int) * c i) + u01 (decide (P i % (n : Int) < (t : Int))) * c i) (List.range n) :=
    tsum_congr fun i _ => by
      rw [cdiv_place (by omega) (by omega) (by omega)]
      grind
  rw [h1, tsum_add, tsum_mul]
  have h2 : ∀ t : Nat, t ≤ n → tsum (fun i => u01 (decide (P i % (n : Int) < (t : Int))) * c i) (List.range n) = tsum (fun u : Nat => c (ix (u : Int))) (List.range t) := by
    intro t
    induction t with
    | zero =>
      intro _
      rw [tsum_zero fun i _ => ?_]
      · rfl
      · have := Int.emod_nonneg (P i) (show (n : Int) ≠ 0 by omega)
        have : decide (P i % (n : Int) < ((0 : Nat) : Int)) = false := decide_eq_false (by omega)
        rw [this]; simp [u01]
    | succ t ih =>
      intro ht
      rw [tsum_range_succ, ← ih (by omega)]
      obtain ⟨hi, hp⟩ := hx (t : Int)
      have h3 : tsum (fun i => u01 (decide (P i % (n : Int) < ((t + 1 : Nat) : Int))) * c i) (List.range n) = tsum (fun i => u01 (decide (P i % (n : Int) < (t : Int))) * c i + if i = ix (t : Int) then c (ix (t : Int)) else 0) (List.range n) := by
        refine tsum_congr fun i him => ?_
        have him := List.mem_range.mp him
        have r0 := Int.emod_nonneg (P i) (show (n : Int) ≠ 0 by omega)
        have d := Int.mul_ediv_add_emod (P i) n
        by_cases e : i = ix (t : Int)
        · have : P i % (n : Int) = (t : Int) := by
            rw [e, hp, Int.add_mul_emod_self_right]
            exact Int.emod_eq_of_lt (by omega) (by omega)
          have d1 : decide (P i % (n : Int) < ((t + 1 : Nat) : Int)) = true := decide_eq_true (by omega)
          have d2 : decide (P i % (n : Int) < (t : Int)) = false := decide_eq_false (by omega)
          rw [d1, d2, if_pos e, e]
          simp [u01]
        · have : P i % (n : Int) ≠ (t : Int) := fun g => by
            have := h.inj (i := i) (j := ix (t : Int)) (a := -(P i / n)) (b := -(sh t)) him hi (by grind)
            exact e this.1
          have d1 : decide (P i % (n : Int) < ((t + 1 : Nat) : Int)) = decide (P i % (n : Int) < (t : Int)) := by
            rw [Bool.eq_iff_iff]; simp; omega
          rw [d1, if_neg e]
          omega
      rw [h3, tsum_add, tsum_single _ _ _ hi]
  unfold QQ
  rw [h2 t ht]
  omega
/-- what is kept of the sorted row: where the rank rises -/
theorem kept (h : Pl n m r P) (hn : 0 < n) (hm : 0 < m) {ix : Int → Nat} {sh : Int → Int} (hx : ∀ T, ix T < n ∧ P (ix T) = T + sh T * (n : Int))
    (hs : ∀ k : Int, ∃ i a, i < n ∧ r i + a * m = k) {α : Type} (V : Int → α) (Q : Nat → α)
    (hQ : ∀ t : Nat, t < n → ∀ ρ : Int, (∀ i, i < n → cdiv (ρ - r i) m = cdiv ((t : Int) - P i) n) → Q t = V ρ)
    (test : Nat → Bool) (ht : ∀ t : Nat, t < n → (test t = true ↔ r (ix t) - sh t * m = r (ix ((t : Int) - 1)) - sh ((t : Int) - 1) * m + 1))
    (hf : ∀ t : Nat, t < n → (test t = false ↔ r (ix t) - sh t * m = r (ix ((t : Int) - 1)) - sh ((t : Int) - 1) * m)) :
    ∃ ρ0 : Int, ((List.range n).filter test).map Q = (List.range m.toNat).map fun k : Nat => V (ρ0 + (k : Int)) := by
  let R : Int → Int := fun T => r (ix T) - sh T * m
  -- the element at T stands there
  have hB : ∀ T T' : Int, T < T' → Bf n m r (ix T) (-(sh T)) (ix T') (-(sh T')) := fun T T' hlt => by
    have a1 := hx T
    have a2 := hx T'
    refine (h.iff a1.1 a2.1).mpr ?_
    rw [a1.2, a2.2]
    have e1 : -(sh T) * (n : Int) = -(sh T * n) := by grind
    have e2 : -(sh T') * (n : Int) = -(sh T' * n) := by grind
    omega
  have negm : ∀ a b : Int, -a * b = -(a * b) := fun a b => by grind
  have mono : ∀ T T' : Int, T < T' → R T ≤ R T' := fun T T' hlt => by
    have := hB T T' hlt
    unfold Bf at this
    rw [negm, negm] at this
    show r (ix T) - sh T * m ≤ r (ix T') - sh T' * m
    omega
  have key : ∀ t : Nat, t < n → R t = R ((t : Int) - 1) + 1 → Q t = V (R t) := fun t htn e => by
    refine hQ t htn _ fun i hi => ?_
    refine cdiv_eq hm (by omega) fun k => ?_
    have a1 := hx (t : Int)
    have a2 := hx ((t : Int) - 1)
    have b1 : Bf n m r i k (ix (t : Int)) (-(sh (t : Int))) ↔ P i + k * (n : Int) < (t : Int) := by
      rw [h.iff hi a1.1, a1.2, negm]
      omega
    have b2 : Bf n m r (ix ((t : Int) - 1)) (-(sh ((t : Int) - 1))) i k ↔ (t : Int) - 1 < P i + k * (n : Int) := by
      rw [h.iff a2.1 hi, a2.2, negm]
      omega
    have e1 : R t = r (ix t) - sh t * m := rfl
    have e2 : R ((t : Int) - 1) = r (ix ((t : Int) - 1)) - sh ((t : Int) - 1) * m := rfl
    constructor
    · intro g
      have := b1.mp (by unfold Bf; rw [negm]; left; omega)
      omega
    · intro g
      apply Classical.byContradiction
      intro hc
      have := b2.mp (by unfold Bf; rw [negm]; left; omega)
      omega
  have hstep : ∀ t : Nat, t < n → (test t = true ∧ R t = R ((t : Int) - 1) + 1) ∨ (test t = false ∧ R t = R ((t : Int) - 1)) := fun t htn => by
    cases c : test t with
    | true => exact .inl ⟨rfl, (ht t htn).mp c⟩
    | false => exact .inr ⟨rfl, (hf t htn).mp c⟩
  have ind : ∀ t : Nat, t ≤ n → 0 ≤ R ((t : Int) - 1) - R (-1) ∧ ((List.range t).filter test).map Q = (List.range (R ((t : Int) - 1) - R (-1)).toNat).map fun k : Nat => V (R (-1) + 1 + (k : Int)) := by
    intro t
    induction t with
    | zero =>
      intro _
      have e0 : ((0 : Nat) : Int) - 1 = -1 := by omega
      rw [e0, Int.sub_self]
      exact ⟨Int.le_refl _, rfl⟩
    | succ t ih =>
      intro htn
      obtain ⟨ih1, ih2⟩ := ih (by omega)
      have ec : ((t + 1 : Nat) : Int) - 1 = (t : Int) := by omega
      rw [ec, List.range_succ, List.filter_append, List.map_append, ih2]
      rcases hstep t (by omega) with ⟨c, e⟩ | ⟨c, e⟩
      · refine ⟨by omega, ?_⟩
        have e2 : (R (t : Int) - R (-1)).toNat = (R ((t : Int) - 1) - R (-1)).toNat + 1 := by omega
        rw [e2, List.range_succ, List.map_append, List.filter_cons_of_pos c]
        congr 1
        show [Q t] = [V (R (-1) + 1 + ((R ((t : Int) - 1) - R (-1)).toNat : Int))]
        rw [key t (by omega) e]
        congr 2
        omega
      · refine ⟨by omega, ?_⟩
        rw [List.filter_cons_of_neg (by rw [c]; exact Bool.false_ne_true), e]
        simp
  obtain ⟨_, hfin⟩ := ind n (Nat.le_refl _)
  have hper : R ((n : Int) - 1) = R (-1) + m := by
    have a1 := hx ((n : Int) - 1)
    have a2 := hx (-1)
    have := h.inj (i := ix ((n : Int) - 1)) (j := ix (-1)) (a := -(sh ((n : Int) - 1)) - 1) (b := -(sh (-1))) a1.1 a2.1 (by rw [a1.2, a2.2]; grind)
    show r (ix ((n : Int) - 1)) - sh ((n : Int) - 1) * m = r (ix (-1)) - sh (-1) * m + m
    rw [this.1]
    have e : sh ((n : Int) - 1) = sh (-1) - 1 := by omega
    rw [e]
    grind
  refine ⟨R (-1) + 1, ?_⟩
  rw [hfin, hper]
  have : (R (-1) + m - R (-1)).toNat = m.toNat := by omega
  rw [this]
/-- ranks rise by one at most -/
theorem rise (h : Pl n m r P) (hn : 0 < n) {ix : Int → Nat} {sh : Int → Int} (hx : ∀ T, ix T < n ∧ P (ix T) = T + sh T * (n : Int))
    (hs : ∀ k : Int, ∃ i a, i < n ∧ r i + a * m = k) (T : Int) : r (ix T) - sh T * m = r (ix (T - 1)) - sh (T - 1) * m ∨ r (ix T) - sh T * m = r (ix (T - 1)) - sh (T - 1) * m + 1 := by
  have a1 := hx T
  have a2 := hx (T - 1)
  have negm : ∀ a b : Int, -a * b = -(a * b) := fun a b => by grind
  have hB : Bf n m r (ix (T - 1)) (-(sh (T - 1))) (ix T) (-(sh T)) := by
    refine (h.iff a2.1 a1.1).mpr ?_
    rw [a1.2, a2.2, negm, negm]
    omega
  have mono : r (ix (T - 1)) - sh (T - 1) * m ≤ r (ix T) - sh T * m := by
    unfold Bf at hB
    rw [negm, negm] at hB
    omega
  apply Classical.byContradiction
  intro hc
  obtain ⟨i, a, hi, e⟩ := hs (r (ix (T - 1)) - sh (T - 1) * m + 1)
  have b1 := (h.iff (a := -(sh (T - 1))) (b := a) a2.1 hi).mp (by unfold Bf; rw [negm]; left; omega)
  have b2 := (h.iff (a := a) (b := -(sh T)) hi a1.1).mp (by unfold Bf; rw [negm]; left; omega)
  rw [a2.2, negm] at b1
  rw [a1.2, negm] at b2
  omega
end
/-! ## Sides with their ranks, and the corners of the field -/
def pathC (D : List Pt) : List (Pt × Int) → Prop
  | p :: q :: t => q.2 = p.2 + dl D (dirOf p.1) (dirOf q.1) ∧ pathC D (q :: t)
  | _ => True
def ChainC (D : List Pt) : List (Pt × Int) → Prop
  | [] => True
  | p :: t => pathC D (p :: t ++ [(p.1, p.2 + (D.length : Int))])
structure IsD (S D : List Pt) : Prop where
  ds : Dirs D
  mem : ∀ d, d ∈ D ↔ d ∈ S.map dirOf
def VL (z : Pt) (m : Int) (L : List (Pt × Int)) (t : Int) : Pt := (z.1 + tsum (fun p => cdiv (t - p.2) m * p.1.1) L, z.2 + tsum (fun p => cdiv (t - p.2) m * p.1.2) L)
def lexLe (a b : Pt) : Prop := a.1 < b.1 ∨ (a.1 = b.1 ∧ a.2 ≤ b.2)
/-- B: the corners of a field, from the least one on -/
def FieldOf (l B : List Pt) : Prop := ∃ (z : Pt) (s D : List Pt) (L : List (Pt × Int)) (t0 : Int), l = z :: s ∧ IsD (sid l) D ∧ L.map (·.1) = sid l ∧ ChainC D L ∧
  B = (List.range D.length).map (fun k : Nat => VL z (D.length : Int) L (t0 + (k : Int))) ∧ ∀ t, lexLe (VL z (D.length : Int) L t0) (VL z (D.length : Int) L t)
theorem pathC_append (D : List Pt) : ∀ (x : List (Pt × Int)) (y : Pt × Int) (z : List (Pt × Int)), pathC D (x ++ y :: z) ↔ pathC D (x ++ [y]) ∧ pathC D (y :: z)
  | [], y, z => by simp [pathC]
  | [a], y, z => by simp [pathC]
  | a :: b :: t, y, z => by
    have := pathC_append D (b :: t) y z
    show (_ ∧ pathC D (b :: t ++ y :: z)) ↔ (_ ∧ pathC D (b :: t ++ [y])) ∧ pathC D (y :: z)
    rw [this, and_assoc]
def shft (c : Int) (p : Pt × Int) : Pt × Int := (p.1, p.2 + c)
theorem pathC_shift (D : List Pt) (c : Int) : ∀ L : List (Pt × Int), pathC D L → pathC D (L.map (shft c))
  | [], _ => trivial
  | [_], _ => trivial
  | p :: q :: t, h => ⟨by have := h.1; simp only [shft]; omega, pathC_shift D c (q :: t) h.2⟩
theorem pathC_unique (D : List Pt) : ∀ (L K : List (Pt × Int)) (c : Int), L.map (·.1) = K.map (·.1) → pathC D L → pathC D K → (∀ p q, L.head? = some p → K.head? = some q → q.2 = p.2 + c) → K = L.map (shft c)
  | [], [], c, _, _, _, _ => rfl
  | [], _ :: _, c, e, _, _, _ => by simp at e
  | _ :: _, [], c, e, _, _, _ => by simp at e
  | p :: L, q :: K, c, e, h1, h2, hh => by
    have e1 : p.1 = q.1 ∧ L.map (·.1) = K.map (·.1) := by simpa using e
    have e2 : q.2 = p.2 + c := hh p q rfl rfl
    have e3 : q = shft c p := Prod.ext e1.1.symm e2
    rw [List.map_cons, ← e3]
    congr 1
    cases L with
    | nil =>
      cases K with
      | nil => rfl
      | cons _ _ => simp at e1
    | cons p' L =>
      cases K with
      | nil => simp at e1
      | cons q' K =>
        refine pathC_unique D (p' :: L) (q' :: K) c e1.2 h1.2 h2.2 fun a b ha hb => ?_
        have ha : p' = a := by simpa using ha
        have hb : q' = b := by simpa using hb
        subst ha hb
        have a1 := h1.1
        have a2 := h2.1
        have e4 : p'.1 = q'.1 := by simpa using (List.cons.inj e1.2).1
        rw [← e4, ← e1.1] at a2
        omega
theorem VL_shift (z : Pt) (m c t : Int) (L : List (Pt × Int)) : VL z m (L.map (shft c)) t = VL z m L (t - c) := by
  unfold VL
  rw [tsum_map, tsum_map]
  have e : ∀ p : Pt × Int, t - (shft c p).2 = t - c - p.2 := fun p => by unfold shft; simp only; omega
  simp only [e]
  rfl
/-! ### two sets of the same directions -/
theorem perm_of_mem {α : Type} {a b : List α} (ha : a.Nodup) (hb : b.Nodup) (h : ∀ x, x ∈ a ↔ x ∈ b) : a.Perm b := (List.perm_ext_iff_of_nodup ha hb).mpr h
theorem dl_perm {D E : List Pt} (h : D.Perm E) (a b : Pt) : dl D a b = dl E a b := by
  unfold dl intr
  rw [tsum_perm _ h, tsum_perm _ h]
theorem pathC_perm {D E : List Pt} (h : ∀ a b, dl D a b = dl E a b) : ∀ L : List (Pt × Int), pathC D L → pathC E L
  | [], _ => trivial
  | [_], _ => trivial
  | p :: q :: t, k => ⟨by rw [← h]; exact k.1, pathC_perm h (q :: t) k.2⟩
theorem ChainC_perm {D E : List Pt} (hp : D.Perm E) {L : List (Pt × Int)} (h : ChainC D L) : ChainC E L := by
  cases L with
  | nil => trivial
  | cons p t =>
    have := pathC_perm (dl_perm hp) _ h
    show pathC E (p :: t ++ [(p.1, p.2 + (E.length : Int))])
    rw [← hp.length_eq]
    exact this
theorem ChainC_shift {D : List Pt} {L : List (Pt × Int)} (c : Int) (h : ChainC D L) : ChainC D (L.map (shft c)) := by
  cases L with
  | nil => trivial
  | cons p t =>
    have := pathC_shift D c _ h
    show pathC D (shft c p :: t.map (shft c) ++ [((shft c p).1, (shft c p).2 + (D.length : Int))])
    have e : (p :: t ++ [(p.1, p.2 + (D.length : Int))]).map (shft c) = shft c p :: t.map (shft c) ++ [((shft c p).1, (shft c p).2 + (D.length : Int))] := by
      simp [shft]
      omega
    rw [← e]
    exact this
theorem ChainC_unique {D : List Pt} {L K : List (Pt × Int)} (e : L.map (·.1) = K.map (·.1)) (h1 : ChainC D L) (h2 : ChainC D K) : ∃ c, K = L.map (shft c) := by
  cases L with
  | nil =>
    cases K with
    | nil => exact ⟨0, rfl⟩
    | cons _ _ => simp at e
  | cons p t =>
    cases K with
    | nil => simp at e
    | cons q u =>
      refine ⟨q.2 - p.2, pathC_unique D _ _ _ e ?_ ?_ fun a b ha hb => ?_⟩
      · exact ((pathC_append D (p :: t) _ []).mp h1).1 |> fun h => by
          have : ∀ (x : List (Pt × Int)) (y : Pt × Int), pathC D (x ++ [y]) → pathC D x := by
            intro x
            induction x with
            | nil => intro _ _; trivial
            | cons a x ih =>
              intro y hy
              cases x with
              | nil => trivial
              | cons b x => exact ⟨hy.1, ih y hy.2⟩
          exact this _ _ h
      · exact (by
          have : ∀ (x : List (Pt × Int)) (y : Pt × Int), pathC D (x ++ [y]) → pathC D x := by
            intro x
            induction x with
            | nil => intro _ _; trivial
            | cons a x ih =>
              intro y hy
              cases x with
              | nil => trivial
              | cons b x => exact ⟨hy.1, ih y hy.2⟩
          exact this _ _ h2)
      · have ha : p = a := by simpa using ha
        have hb : q = b := by simpa using hb
        subst ha hb
        omega
/-! ### the ranks of the sides of a fence: D is the set of their directions -/
structure Rk (S D : List Pt) (L : List (Pt × Int)) : Prop where
  d : IsD S D
  s : L.map (·.1) = S
  c : ChainC D L
/-- facts of the sides of a fence that the field leans on -/
structure Sds (S : List Pt) : Prop where
  ne : ∀ s ∈ S, s ≠ (0, 0)
  go : ∀ p ∈ pathE (S ++ S.take 1), goesOn p.1 p.2
  t : totS S = 1
  z1 : tsum (·.1) S = 0
  z2 : tsum (·.2) S = 0
theorem Fen.sds {l : List Pt} (h : Fen l) : Sds (sid l) := by
  refine ⟨fun s hs => sid_ne h.s hs, sid_goes h.s, h.tot, ?_, ?_⟩
  · unfold sid
    rw [tsum_map]
    exact tsum_cyc (fun v => v.1) l
  · unfold sid
    rw [tsum_map]
    exact tsum_cyc (fun v => v.2) l
/-- every rank is the number of its side's direction, some rounds on -/
theorem rank_num {S D : List Pt} {L : List (Pt × Int)} (hS : Sds S) (h : Rk S D L) {p q : Pt × Int} (hp : p ∈ L) (hq : q ∈ L) : ∃ k : Int, p.2 - num D (dirOf p.1) = q.2 - num D (dirOf q.1) + k * (D.length : Int) := by
  have hgo : ∀ (x : Pt × Int) (t : List (Pt × Int)), pathC D (x :: t) → (∀ e ∈ pathE ((x :: t).map (·.1)), goesOn e.1 e.2) → (∀ y ∈ x :: t, y.1 ∈ S) →
      ∀ y ∈ x :: t, ∃ k : Int, y.2 - num D (dirOf y.1) = x.2 - num D (dirOf x.1) + k * (D.length : Int) := by
    intro x t
    induction t generalizing x with
    | nil =>
      intro _ _ _ y hy
      rw [List.mem_singleton.mp hy]
      exact ⟨0, by omega⟩
    | cons z t ih =>
      intro hc hg hm y hy
      rcases List.mem_cons.mp hy with e | e
      · rw [e]; exact ⟨0, by omega⟩
      · obtain ⟨k, hk⟩ := ih z hc.2 (fun e he => hg e (List.mem_cons_of_mem _ he)) (fun y hy => hm y (List.mem_cons_of_mem _ hy)) y e
        have hx := hm x (List.mem_cons_self ..)
        have hz := hm z (List.mem_cons_of_mem _ (List.mem_cons_self ..))
        have g : goesOn (dirOf x.1) (dirOf z.1) := by
          have := hg (x.1, z.1) (List.mem_cons_self ..)
          rw [← ((dirOf_alike (hS.ne _ hx)).goesOn).1, ← ((dirOf_alike (hS.ne _ hz)).goesOn).2]
          exact this
        have st := step h.d.ds ((h.d.mem _).mpr (List.mem_map_of_mem hx)) ((h.d.mem _).mpr (List.mem_map_of_mem hz)) g
        have e1 := hc.1
        refine ⟨k + pe (dirOf x.1) (dirOf z.1), ?_⟩
        rw [hk, e1, ← st]
        grind
  cases hL : L with
  | nil => rw [hL] at hp; cases hp
  | cons x t =>
    have hpc : pathC D (x :: t) := by
      have h2 := h.c
      rw [hL] at h2
      have : ∀ (x : List (Pt × Int)) (y : Pt × Int), pathC D (x ++ [y]) → pathC D x := by
        intro x
        induction x with
        | nil => intro _ _; trivial
        | cons a x ih =>
          intro y hy
          cases x with
          | nil => trivial
          | cons b x => exact ⟨hy.1, ih y hy.2⟩
      exact this _ _ h2
    have hgg : ∀ e ∈ pathE ((x :: t).map (·.1)), goesOn e.1 e.2 := fun e he => by
      have hs := h.s
      rw [hL] at hs
      rw [hs] at he
      refine hS.go e ?_
      cases hS2 : S with
      | nil => rw [hS2] at hs; simp at hs
      | cons a u =>
        rw [hS2] at he
        exact pathE_sub (t := u) he
    have hmm : ∀ y ∈ x :: t, y.1 ∈ S := fun y hy => by
      rw [← h.s, hL]
      exact List.mem_map_of_mem hy
    obtain ⟨k1, e1⟩ := hgo x t hpc hgg hmm p (hL ▸ hp)
    obtain ⟨k2, e2⟩ := hgo x t hpc hgg hmm q (hL ▸ hq)
    refine ⟨k1 - k2, ?_⟩
    rw [e1, e2]
    grind
theorem Rk.mem1 {S D : List Pt} {L : List (Pt × Int)} (h : Rk S D L) {p : Pt × Int} (hp : p ∈ L) : p.1 ∈ S := by
  rw [← h.s]
  exact List.mem_map_of_mem hp
theorem Rk.memD {S D : List Pt} {L : List (Pt × Int)} (h : Rk S D L) {p : Pt × Int} (hp : p ∈ L) : dirOf p.1 ∈ D := (h.d.mem _).mpr (List.mem_map_of_mem (h.mem1 hp))
theorem Rk.pos {S D : List Pt} {L : List (Pt × Int)} (hS : Sds S) (h : Rk S D L) : 0 < (D.length : Int) := by
  cases hS2 : S with
  | nil =>
    have := hS.t
    rw [hS2] at this
    simp [totS] at this
  | cons a u =>
    have : dirOf a ∈ D := (h.d.mem _).mpr (List.mem_map_of_mem (by rw [hS2]; exact List.mem_cons_self ..))
    have := List.length_pos_of_mem this
    omega
/-- ranks that are alike but for rounds: one direction -/
theorem rank_same {S D : List Pt} {L : List (Pt × Int)} (hS : Sds S) (h : Rk S D L) {p q : Pt × Int} (hp : p ∈ L) (hq : q ∈ L) {a b : Int} (e : p.2 - a * (D.length : Int) = q.2 - b * (D.length : Int)) : dirOf p.1 = dirOf q.1 := by
  obtain ⟨k, hk⟩ := rank_num hS h hp hq
  have r1 := num_range h.d.ds (h.memD hp)
  have r2 := num_range h.d.ds (h.memD hq)
  have hm := h.pos hS
  refine num_inj h.d.ds (h.memD hp) (h.memD hq) ?_
  have e2 : num D (dirOf p.1) - num D (dirOf q.1) = (a - b - k) * (D.length : Int) := by grind
  rcases Int.lt_trichotomy (a - b - k) 0 with g | g | g
  · have := Int.mul_nonneg (show 0 ≤ -(a - b - k) - 1 by omega) (Int.le_of_lt hm)
    have e3 : (-(a - b - k) - 1) * (D.length : Int) = -((a - b - k) * (D.length : Int)) - D.length := by grind
    omega
  · rw [g] at e2; omega
  · have := Int.mul_nonneg (show 0 ≤ (a - b - k) - 1 by omega) (Int.le_of_lt hm)
    have e3 : ((a - b - k) - 1) * (D.length : Int) = ((a - b - k) * (D.length : Int)) - D.length := by grind
    omega
theorem rank_next {S D : List Pt} {L : List (Pt × Int)} (hS : Sds S) (h : Rk S D L) {p q : Pt × Int} (hp : p ∈ L) (hq : q ∈ L) {a b : Int} (e : q.2 - b * (D.length : Int) = p.2 - a * (D.length : Int) + 1) :
    num D (dirOf q.1) = num D (dirOf p.1) + 1 ∨ (num D (dirOf p.1) = (D.length : Int) - 1 ∧ num D (dirOf q.1) = 0) := by
  obtain ⟨k, hk⟩ := rank_num hS h hq hp
  have r1 := num_range h.d.ds (h.memD hp)
  have r2 := num_range h.d.ds (h.memD hq)
  have hm := h.pos hS
  have e2 : num D (dirOf q.1) - num D (dirOf p.1) - 1 = (b - a - k) * (D.length : Int) := by grind
  rcases Int.lt_trichotomy (b - a - k) 0 with g | g | g
  · have := Int.mul_nonneg (show 0 ≤ -(b - a - k) - 1 by omega) (Int.le_of_lt hm)
    have e3 : (-(b - a - k) - 1) * (D.length : Int) = -((b - a - k) * (D.length : Int)) - D.length := by grind
    omega
  · rw [g] at e2; omega
  · have := Int.mul_nonneg (show 0 ≤ (b - a - k) - 1 by omega) (Int.le_of_lt hm)
    have e3 : ((b - a - k) - 1) * (D.length : Int) = ((b - a - k) * (D.length : Int)) - D.length := by grind
    omega
theorem rank_surj {S D : List Pt} {L : List (Pt × Int)} (hS : Sds S) (h : Rk S D L) (k : Int) : ∃ p ∈ L, ∃ a : Int, p.2 + a * (D.length : Int) = k := by
  have hm := h.pos hS
  -- some side stands, with its rank
  cases hL : L with
  | nil =>
    have hs := h.s
    rw [hL] at hs
    have := hS.t
    rw [← hs] at this
    simp [totS] at this
  | cons x t =>
    have hx : x ∈ L := by rw [hL]; exact List.mem_cons_self ..
    have m0 := Int.emod_nonneg (k - (x.2 - num D (dirOf x.1))) (show (D.length : Int) ≠ 0 by omega)
    have m1 := Int.emod_lt_of_pos (k - (x.2 - num D (dirOf x.1))) hm
    obtain ⟨d, hd, e⟩ := num_surj h.d.ds m0 m1
    obtain ⟨s, hs, rfl⟩ := List.mem_map.mp ((h.d.mem d).mp hd)
    rw [← h.s] at hs
    obtain ⟨p, hp, rfl⟩ := List.mem_map.mp hs
    obtain ⟨j, hj⟩ := rank_num hS h hp hx
    have dd := Int.mul_ediv_add_emod (k - (x.2 - num D (dirOf x.1))) (D.length : Int)
    refine ⟨p, hL ▸ hp, (k - (x.2 - num D (dirOf x.1))) / (D.length : Int) - j, ?_⟩
    rw [← e] at dd
    generalize (k - (x.2 - num D (dirOf x.1))) / (D.length : Int) = Q at *
    grind
/-- consecutive ranks: the sides don't lie on one line -/
theorem rank_cross {S D : List Pt} {L : List (Pt × Int)} (hS : Sds S) (h : Rk S D L) {p q : Pt × Int} (hp : p ∈ L) (hq : q ∈ L) {a b : Int} (e : q.2 - b * (D.length : Int) = p.2 - a * (D.length : Int) + 1) : cr p.1 q.1 ≠ 0 := by
  intro h0
  have hn := rank_next hS h hp hq e
  have np := hS.ne _ (h.mem1 hp)
  have nq := hS.ne _ (h.mem1 hq)
  have ap := dirOf_alike np
  have h1 : cr (dirOf p.1) q.1 = 0 := by
    have := ap.crs q.1
    omega
  have h2 : cr (dirOf p.1) (dirOf q.1) = 0 := by
    have := (dirOf_alike nq).crs (dirOf p.1)
    have e1 := cr_anti (dirOf p.1) q.1
    have e2 := cr_anti (dirOf p.1) (dirOf q.1)
    omega
  have hall := next_cross h.d.ds (h.memD hp) (h.memD hq) hn h2
  have hle : ∀ s ∈ S, cr (dirOf p.1) s ≤ 0 := fun s hs => by
    have := hall (dirOf s) ((h.d.mem _).mpr (List.mem_map_of_mem hs))
    have k := (dirOf_alike (hS.ne s hs)).crs (dirOf p.1)
    have e1 := cr_anti (dirOf p.1) s
    have e2 := cr_anti (dirOf p.1) (dirOf s)
    omega
  have hsum : tsum (fun s => cr (dirOf p.1) s) S = 0 := by
    have : tsum (fun s => cr (dirOf p.1) s) S = tsum (fun s : Pt => (dirOf p.1).1 * s.2 + (-(dirOf p.1).2) * s.1) S := tsum_congr fun s _ => by unfold cr; grind
    rw [this, tsum_add, tsum_mul, tsum_mul, hS.z1, hS.z2]
    simp
  have hz : ∀ s ∈ S, cr (dirOf p.1) s = 0 := fun s hs => by
    apply Classical.byContradiction
    intro hne
    have := tsum_lt (g := fun s => cr (dirOf p.1) s) (k := fun _ => 0) (l := S) hle hs (by have := hle s hs; show cr (dirOf p.1) s < 0; omega)
    rw [hsum, tsum_zero fun _ _ => rfl] at this
    omega
  -- then nobody turns
  have hpz : ∀ u v : Pt, cr (dirOf p.1) u = 0 → cr (dirOf p.1) v = 0 → pe u v = 0 := fun u v hu hv => by
    have hc : cr u v = 0 := by
      have hd := (dirOf_prim np).1
      have i1 : (dirOf p.1).1 * cr u v = 0 := by unfold cr at *; grind
      have i2 : (dirOf p.1).2 * cr u v = 0 := by unfold cr at *; grind
      rcases Int.mul_eq_zero.mp i1 with g | g
      · rcases Int.mul_eq_zero.mp i2 with k | k
        · exact absurd (Prod.ext g k) hd
        · exact k
      · exact g
    rw [pe_eq, hc]
    simp
  have ht := hS.t
  have hz2 : ∀ L : List Pt, (∀ s ∈ L, cr (dirOf p.1) s = 0) → peSum L = 0 := fun L => by
    induction L with
    | nil => intro _; rfl
    | cons a L ih =>
      intro hL
      cases L with
      | nil => rfl
      | cons b L =>
        have i2 := ih fun s hs => hL s (List.mem_cons_of_mem _ hs)
        simp only [peSum]
        rw [i2, hpz a b (hL a (List.mem_cons_self ..)) (hL b (List.mem_cons_of_mem _ (List.mem_cons_self ..)))]
        rfl
  cases hS2 : S with
  | nil => rw [hS2] at ht; simp [totS] at ht
  | cons s t =>
    rw [hS2] at ht hz
    have : totS (s :: t) = 0 := hz2 _ fun u hu => by
      rcases List.mem_append.mp hu with g | g
      · exact hz u g
      · rw [List.mem_singleton.mp g]; exact hz s (List.mem_cons_self ..)
    omega
/-! ## The round of the field's corners -/
theorem cdiv_step {x m : Int} (hm : 0 < m) : cdiv (x + 1) m - cdiv x m = u01 (decide (x % m = 0)) := by
  have d := Int.mul_ediv_add_emod x m
  have r0 := Int.emod_nonneg x (show m ≠ 0 by omega)
  have r1 := Int.emod_lt_of_pos x hm
  have e1 : x = (x % m) + (x / m) * m := by grind
  have e2 : x + 1 = (x % m + 1) + (x / m) * m := by omega
  have key : ∀ y : Int, 0 < y → y ≤ m → cdiv y m = 1 := fun y h0 h1 => by
    have a := (lt_cdiv (x := y) (k := 0) hm).mpr (by omega)
    have b : ¬ 1 < cdiv y m := fun h => by have := (lt_cdiv hm).mp h; omega
    omega
  have c1 : cdiv (x + 1) m = 1 + x / m := by rw [e2, cdiv_one hm, key _ (by omega) (by omega)]
  by_cases c : x % m = 0
  · have c2 : cdiv x m = 0 + x / m := by
      rw [c] at e1
      rw [show cdiv x m = cdiv (0 + (x / m) * m) m by rw [← e1], cdiv_one hm]
      congr 1
      have a : ¬ 0 < cdiv 0 m := fun h => by have := (lt_cdiv hm).mp h; omega
      have b := (lt_cdiv (x := 0) (k := -1) hm).mpr (by omega)
      omega
    rw [c1, c2]
    simp [u01, c] <;> omega
  · have c2 : cdiv x m = 1 + x / m := by
      rw [show cdiv x m = cdiv ((x % m) + (x / m) * m) m by rw [← e1], cdiv_one hm, key _ (by omega) (by omega)]
    rw [c1, c2]
    simp [u01, c]
section
variable {S D : List Pt} {L : List (Pt × Int)} {z : Pt}
theorem VL_per (hS : Sds S) (h : Rk S D L) (t : Int) : VL z (D.length : Int) L (t + (D.length : Int)) = VL z (D.length : Int) L t := by
  have hm := h.pos hS
  have e : ∀ c : Pt → Int, tsum c S = 0 → tsum (fun p : Pt × Int => cdiv (t + (D.length : Int) - p.2) (D.length : Int) * c p.1) L = tsum (fun p : Pt × Int => cdiv (t - p.2) (D.length : Int) * c p.1) L := fun c hc => by
    have : tsum (fun p : Pt × Int => cdiv (t + (D.length : Int) - p.2) (D.length : Int) * c p.1) L = tsum (fun p : Pt × Int => cdiv (t - p.2) (D.length : Int) * c p.1 + c p.1) L := tsum_congr fun p _ => by
      have : t + (D.length : Int) - p.2 = (t - p.2) + 1 * (D.length : Int) := by omega
      rw [this, cdiv_one hm]
      grind
    rw [this, tsum_add]
    have : tsum (fun p : Pt × Int => c p.1) L = 0 := by
      rw [← hc, ← h.s, tsum_map]
    omega
  unfold VL
  rw [e (fun v => v.1) hS.z1, e (fun v => v.2) hS.z2]
theorem VL_per_mul (hS : Sds S) (h : Rk S D L) (t : Int) (k : Nat) : VL z (D.length : Int) L (t + (k : Int) * (D.length : Int)) = VL z (D.length : Int) L t := by
  induction k with
  | zero => congr 1; simp
  | succ k ih =>
    have : t + ((k + 1 : Nat) : Int) * (D.length : Int) = (t + (k : Int) * (D.length : Int)) + (D.length : Int) := by
      have : ((k + 1 : Nat) : Int) = (k : Int) + 1 := by omega
      rw [this]
      grind
    rw [this, VL_per hS h, ih]
theorem VL_mod (hS : Sds S) (h : Rk S D L) {t u k : Int} (e : t = u + k * (D.length : Int)) : VL z (D.length : Int) L t = VL z (D.length : Int) L u := by
  rcases Int.le_total 0 k with g | g
  · have := VL_per_mul (z := z) hS h u k.toNat
    have e2 : (k.toNat : Int) = k := by omega
    rw [e2, ← e] at this
    exact this
  · have := VL_per_mul (z := z) hS h t (-k).toNat
    have e2 : ((-k).toNat : Int) = -k := by omega
    have e3 : t + -k * (D.length : Int) = u := by rw [e]; grind
    rw [e2, e3] at this
    exact this.symm
/-- the step at a rank goes along the side of this rank -/
theorem VL_step (hS : Sds S) (h : Rk S D L) {p : Pt × Int} (hp : p ∈ L) {t a : Int} (e : p.2 + a * (D.length : Int) = t) :
    ∃ g : Int, 0 < g ∧ (VL z (D.length : Int) L (t + 1)).1 = (VL z (D.length : Int) L t).1 + g * (dirOf p.1).1 ∧ (VL z (D.length : Int) L (t + 1)).2 = (VL z (D.length : Int) L t).2 + g * (dirOf p.1).2 := by
  have hm := h.pos hS
  have hw : ∀ q ∈ L, (t - q.2) % (D.length : Int) = 0 → dirOf q.1 = dirOf p.1 := fun q hq e2 => by
    have d := Int.mul_ediv_add_emod (t - q.2) (D.length : Int)
    refine rank_same hS h hq hp (a := -((t - q.2) / (D.length : Int))) (b := -a) ?_
    grind
  have hc : ∀ c : Pt → Int, (∀ q ∈ L, (t - q.2) % (D.length : Int) = 0 → c q.1 = (Int.gcd q.1.1 q.1.2 : Int) * c (dirOf p.1)) →
      tsum (fun q : Pt × Int => cdiv (t + 1 - q.2) (D.length : Int) * c q.1) L = tsum (fun q : Pt × Int => cdiv (t - q.2) (D.length : Int) * c q.1) L + tsum (fun q : Pt × Int => u01 (decide ((t - q.2) % (D.length : Int) = 0)) * (Int.gcd q.1.1 q.1.2 : Int)) L * c (dirOf p.1) := fun c hcc => by
    rw [Int.mul_comm (tsum _ L) (c (dirOf p.1)), ← tsum_mul, ← tsum_add]
    refine tsum_congr fun q hq => ?_
    have e1 : t + 1 - q.2 = (t - q.2) + 1 := by omega
    have e2 := cdiv_step (x := t - q.2) hm
    rw [e1, show cdiv (t - q.2 + 1) (D.length : Int) = cdiv (t - q.2) (D.length : Int) + u01 (decide ((t - q.2) % (D.length : Int) = 0)) by omega]
    by_cases k : (t - q.2) % (D.length : Int) = 0
    · rw [hcc q hq k]
      grind
    · simp [k, u01]
  refine ⟨tsum (fun q : Pt × Int => u01 (decide ((t - q.2) % (D.length : Int) = 0)) * (Int.gcd q.1.1 q.1.2 : Int)) L, ?_, ?_, ?_⟩
  · refine tsum_pos (fun q _ => Int.mul_nonneg (u01_nonneg _) (by omega)) hp ?_
    have : (t - p.2) % (D.length : Int) = 0 := by
      have : t - p.2 = a * (D.length : Int) := by omega
      rw [this]; exact Int.mul_emod_left ..
    rw [decide_eq_true this]
    show 0 < 1 * _
    rw [Int.one_mul]
    exact gcd_pos (hS.ne _ (h.mem1 hp))
  · have := hc (fun v => v.1) fun q hq k => by
      show q.1.1 = (Int.gcd q.1.1 q.1.2 : Int) * (dirOf p.1).1
      rw [← hw q hq k]
      exact (dirOf_eq q.1).1
    unfold VL
    simp only at this ⊢
    omega
  · have := hc (fun v => v.2) fun q hq k => by
      show q.1.2 = (Int.gcd q.1.1 q.1.2 : Int) * (dirOf p.1).2
      rw [← hw q hq k]
      exact (dirOf_eq q.1).2
    unfold VL
    simp only at this ⊢
    omega
/-- the least corner stands once in a round -/
theorem min_once (hS : Sds S) (h : Rk S D L) {t u : Int} (ht : ∀ v, lexLe (VL z (D.length : Int) L t) (VL z (D.length : Int) L v)) (hu : ∀ v, lexLe (VL z (D.length : Int) L u) (VL z (D.length : Int) L v)) : ∃ k : Int, t = u + k * (D.length : Int) := by
  have hm := h.pos hS
  have one : ∀ t, (∀ v, lexLe (VL z (D.length : Int) L t) (VL z (D.length : Int) L v)) → ∃ q ∈ L, ∃ b : Int, q.2 + b * (D.length : Int) = t ∧
      (num D (dirOf q.1) = tsum (fun f => u01 (!late f)) D ∨ (num D (dirOf q.1) = 0 ∧ tsum (fun f => u01 (!late f)) D = (D.length : Int))) := by
    intro t ht
    obtain ⟨q, hq, b, e⟩ := rank_surj hS h t
    obtain ⟨p, hp, a, e2⟩ := rank_surj hS h (t - 1)
    refine ⟨q, hq, b, e, ?_⟩
    have hn := rank_next hS h hp hq (a := -a) (b := -b) (by grind)
    refine turns_east h.d.ds (h.memD hp) (h.memD hq) hn ?_ ?_
    · obtain ⟨g, hg, g1, g2⟩ := VL_step (z := z) hS h hp e2
      have := ht (t - 1)
      rw [show t - 1 + 1 = t by omega] at g1 g2
      unfold lexLe at this
      cases c : lexpos (dirOf p.1) with
      | false => rfl
      | true =>
        exfalso
        unfold lexpos at c
        simp at c
        rcases c with c | ⟨c, c2⟩
        · have := Int.mul_pos hg c; omega
        · rw [c] at g1
          have := Int.mul_pos hg c2
          omega
    · obtain ⟨g, hg, g1, g2⟩ := VL_step (z := z) hS h hq e
      have := ht (t + 1)
      unfold lexLe at this
      have hne := (dirOf_prim (hS.ne _ (h.mem1 hq))).1
      have hne2 : (dirOf q.1).1 ≠ 0 ∨ (dirOf q.1).2 ≠ 0 := by
        by_cases c : (dirOf q.1).1 = 0
        · right; intro c2; exact hne (Prod.ext c c2)
        · left; exact c
      cases c : lexpos (dirOf q.1) with
      | true => rfl
      | false =>
        exfalso
        unfold lexpos at c
        simp at c
        rcases Int.lt_trichotomy (dirOf q.1).1 0 with k | k | k
        · have := Int.mul_neg_of_pos_of_neg hg k; omega
        · rw [k] at g1
          have := Int.mul_neg_of_pos_of_neg hg (show (dirOf q.1).2 < 0 by omega)
          omega
        · omega
  obtain ⟨p, hp, a, e1, n1⟩ := one t ht
  obtain ⟨q, hq, b, e2, n2⟩ := one u hu
  obtain ⟨k, hk⟩ := rank_num hS h hp hq
  have r1 := num_range h.d.ds (h.memD hp)
  have r2 := num_range h.d.ds (h.memD hq)
  have : num D (dirOf p.1) = num D (dirOf q.1) := by omega
  exact ⟨k + a - b, by grind⟩
end
/-! ### begun at the least -/
def IsBegun (L B : List Pt) : Prop := ∃ at_ : Nat, ∃ h : at_ < L.length, (∀ v ∈ L, lexLe (L[at_]'h) v) ∧ B = L.drop at_ ++ L.take at_
/-- a round of m corners -/
def rnd (V : Int → Pt) (m : Nat) (t : Int) : List Pt := (List.range m).map fun k : Nat => V (t + (k : Int))
theorem rnd_rot {V : Int → Pt} {m : Nat} (hV : ∀ t, V (t + (m : Int)) = V t) (t : Int) {j : Nat} (hj : j ≤ m) : (rnd V m t).drop j ++ (rnd V m t).take j = rnd V m (t + (j : Int)) := by
  refine List.ext_getElem ?_ fun i h1 h2 => ?_
  · simp [rnd]; omega
  · unfold rnd at *
    simp only [List.length_append, List.length_drop, List.length_take, List.length_map, List.length_range] at h1 h2
    rw [List.getElem_append]
    split
    · rename_i h3
      simp only [List.length_drop, List.length_map, List.length_range] at h3
      simp only [List.getElem_drop, List.getElem_map, List.getElem_range]
      congr 1
      omega
    · rename_i h3
      simp only [List.length_drop, List.length_map, List.length_range] at h3
      simp only [List.getElem_take, List.getElem_map, List.getElem_range, List.length_drop, List.length_map, List.length_range]
      rw [← hV]
      congr 1
      omega
theorem begun_rnd {V : Int → Pt} {m : Nat} (hV : ∀ t, V (t + (m : Int)) = V t) {t : Int} {B : List Pt} (h : IsBegun (rnd V m t) B) : ∃ t0 : Int, B = rnd V m t0 ∧ ∀ u, lexLe (V t0) (V u) := by
  obtain ⟨j, hj, hle, hB⟩ := h
  have hj2 : j < m := by simpa [rnd] using hj
  refine ⟨t + (j : Int), by rw [hB, rnd_rot hV t (by omega)], fun u => ?_⟩
  have e : (rnd V m t)[j] = V (t + (j : Int)) := by simp [rnd]
  rw [← e]
  -- u is met in the round
  have hper : ∀ (k : Nat) (v : Int), V (v + (k : Int) * (m : Int)) = V v := fun k => by
    induction k with
    | zero => intro v; congr 1; simp
    | succ k ih =>
      intro v
      have : v + ((k + 1 : Nat) : Int) * (m : Int) = (v + (k : Int) * (m : Int)) + (m : Int) := by
        have : ((k + 1 : Nat) : Int) = (k : Int) + 1 := by omega
        rw [this]; grind
      rw [this, hV, ih]
  have m0 := Int.emod_nonneg (u - t) (show (m : Int) ≠ 0 by omega)
  have m1 := Int.emod_lt_of_pos (u - t) (show (0 : Int) < m by omega)
  have d := Int.mul_ediv_add_emod (u - t) (m : Int)
  have e2 : V u = V (t + (((u - t) % (m : Int)).toNat : Int)) := by
    have e3 : (((u - t) % (m : Int)).toNat : Int) = (u - t) % (m : Int) := by omega
    rw [e3]
    rcases Int.le_total 0 ((u - t) / (m : Int)) with g | g
    · have := hper ((u - t) / (m : Int)).toNat (t + (u - t) % (m : Int))
      rw [← this]
      congr 1
      have e4 : ((((u - t) / (m : Int)).toNat : Nat) : Int) = (u - t) / (m : Int) := by omega
      rw [e4]
      grind
    · have := hper (-((u - t) / (m : Int))).toNat u
      rw [← this]
      congr 1
      have e4 : (((-((u - t) / (m : Int))).toNat : Nat) : Int) = -((u - t) / (m : Int)) := by omega
      rw [e4]
      grind
  rw [e2]
  refine hle _ ?_
  exact List.mem_map.mpr ⟨_, List.mem_range.mpr (by omega), rfl⟩
theorem lexLe_anti {a b : Pt} (h1 : lexLe a b) (h2 : lexLe b a) : a = b := by
  unfold lexLe at *
  exact Prod.ext (by omega) (by omega)
/-- the field of a fence is one, and what is begun of a round of its corners is it -/
theorem FieldOf.one {l B C : List Pt} (hl : Fen l) (hB : FieldOf l B) {z : Pt} {s D : List Pt} {L : List (Pt × Int)} (el : l = z :: s) (hr : Rk (sid l) D L) {t : Int} (hC : IsBegun (rnd (VL z (D.length : Int) L) D.length t) C) : C = B := by
  have hS := hl.sds
  obtain ⟨z', s', D', L', t0, el', hD', hL', hch', eB, hmin⟩ := hB
  have ez : z' = z ∧ s' = s := by
    rw [el] at el'
    simp at el'
    exact ⟨el'.1.symm, el'.2.symm⟩
  obtain ⟨rfl, rfl⟩ := ez
  have hr' : Rk (sid l) D' L' := ⟨hD', hL', hch'⟩
  have hp : D'.Perm D := perm_of_mem hD'.ds.nd hr.d.ds.nd fun x => by rw [hD'.mem, hr.d.mem]
  have hlen := hp.length_eq
  obtain ⟨c, ec⟩ := ChainC_unique (by rw [hL', hr.s]) (ChainC_perm hp hch') hr.c
  obtain ⟨u0, eC, humin⟩ := begun_rnd (fun t => VL_per hS hr t) hC
  have eV : ∀ t, VL z' (D.length : Int) L t = VL z' (D'.length : Int) L' (t - c) := fun t => by rw [ec, VL_shift, hlen]
  have hk := min_once (z := z') hS hr' (t := u0 - c) (u := t0) (fun v => by
    have := humin (v + c)
    rw [eV, eV] at this
    rw [show v + c - c = v by omega] at this
    exact this) hmin
  obtain ⟨k, ek⟩ := hk
  rw [eC, eB]
  unfold rnd
  rw [show List.range D'.length = List.range D.length by rw [hlen]]
  refine List.map_congr_left fun i _ => ?_
  rw [eV]
  refine VL_mod hS hr' (k := k) ?_
  omega
/-! ## How the field goes along -/
theorem FieldOf.rk {l B : List Pt} (h : FieldOf l B) : ∃ (z : Pt) (s D : List Pt) (L : List (Pt × Int)) (t0 : Int), l = z :: s ∧ Rk (sid l) D L ∧ B = rnd (VL z (D.length : Int) L) D.length t0 := by
  obtain ⟨z, s, D, L, t0, el, hD, hL, hch, eB, _⟩ := h
  exact ⟨z, s, D, L, t0, el, ⟨hD, hL, hch⟩, eB⟩
theorem dl_map {D : List Pt} {ψ : Pt → Pt} (h : ∀ a b, cr (ψ a) (ψ b) = cr a b) (a b : Pt) : dl (D.map ψ) (ψ a) (ψ b) = dl D a b := by
  unfold dl intr
  rw [h, tsum_map, tsum_map]
  simp only [h]
theorem Rk.map {S D : List Pt} {L : List (Pt × Int)} {ψ ω : Pt → Pt} (hS : ∀ s ∈ S, s ≠ (0, 0)) (h : Rk S D L) (hω : ∀ a b, cr (ω a) (ω b) = cr a b) (hd : ∀ s, s ≠ (0, 0) → dirOf (ψ s) = ω (dirOf s)) (hi : ∀ a b, ω a = ω b → a = b) (hp : ∀ d, Prim d → Prim (ω d)) :
    Rk (S.map ψ) (D.map ω) (L.map fun p => (ψ p.1, p.2)) := by
  refine ⟨⟨⟨?_, ?_⟩, fun d => ?_⟩, ?_, ?_⟩
  · exact List.pairwise_map.mpr (List.Pairwise.imp (fun hne e => hne (hi _ _ e)) h.d.ds.nd)
  · intro d hdm
    obtain ⟨e, he, rfl⟩ := List.mem_map.mp hdm
    exact hp e (h.d.ds.pr e he)
  · constructor
    · intro hdm
      obtain ⟨e, he, rfl⟩ := List.mem_map.mp hdm
      obtain ⟨s, hs, rfl⟩ := List.mem_map.mp ((h.d.mem e).mp he)
      rw [← hd s (hS s hs)]
      exact List.mem_map_of_mem (List.mem_map_of_mem hs)
    · intro hdm
      obtain ⟨e, he, rfl⟩ := List.mem_map.mp hdm
      obtain ⟨s, hs, rfl⟩ := List.mem_map.mp he
      rw [hd s (hS s hs)]
      exact List.mem_map_of_mem ((h.d.mem _).mpr (List.mem_map_of_mem hs))
  · rw [List.map_map, ← h.s, List.map_map]
    rfl
  · have hmem : ∀ p ∈ L, p.1 ≠ (0, 0) := fun p hpm => hS _ (h.mem1 hpm)
    have go : ∀ K : List (Pt × Int), (∀ p ∈ K, p.1 ≠ (0, 0)) → pathC D K → pathC (D.map ω) (K.map fun p => (ψ p.1, p.2)) := by
      intro K
      induction K with
      | nil => intro _ _; trivial
      | cons p K ih =>
        intro hn hc
        cases K with
        | nil => trivial
        | cons q K =>
          refine ⟨?_, ih (fun p hp => hn p (List.mem_cons_of_mem _ hp)) hc.2⟩
          simp only
          rw [hd _ (hn p (List.mem_cons_self ..)), hd _ (hn q (List.mem_cons_of_mem _ (List.mem_cons_self ..))), dl_map hω]
          exact hc.1
    have hc := h.c
    cases hL : L with
    | nil => trivial
    | cons p t =>
      rw [hL] at hc hmem
      have := go _ (fun q hq => by
        rcases List.mem_append.mp hq with g | g
        · exact hmem q g
        · rw [List.mem_singleton.mp g]; exact hmem p (List.mem_cons_self ..)) hc
      show pathC (D.map ω) ((ψ p.1, p.2) :: t.map (fun p => (ψ p.1, p.2)) ++ [(ψ p.1, p.2 + ((D.map ω).length : Int))])
      rw [List.length_map]
      simpa using this
/-- a linear map of the sides, and of the corners with a shift -/
theorem VL_map (α β γ δ : Int) (w z : Pt) (m t : Int) (L : List (Pt × Int)) :
    VL (α * z.1 + β * z.2 + w.1, γ * z.1 + δ * z.2 + w.2) m (L.map fun p => ((α * p.1.1 + β * p.1.2, γ * p.1.1 + δ * p.1.2), p.2)) t
      = (α * (VL z m L t).1 + β * (VL z m L t).2 + w.1, γ * (VL z m L t).1 + δ * (VL z m L t).2 + w.2) := by
  unfold VL
  rw [tsum_map, tsum_map]
  have e : ∀ a b : Int, tsum (fun p : Pt × Int => cdiv (t - p.2) m * (a * p.1.1 + b * p.1.2)) L = a * tsum (fun p : Pt × Int => cdiv (t - p.2) m * p.1.1) L + b * tsum (fun p : Pt × Int => cdiv (t - p.2) m * p.1.2) L := fun a b => by
    rw [← tsum_mul, ← tsum_mul, ← tsum_add]
    exact tsum_congr fun p _ => by grind
  simp only
  rw [e, e]
  exact Prod.ext (by simp only; grind) (by simp only; grind)
theorem sid_lin {φ ψ : Pt → Pt} (h : ∀ a b, way (φ a) (φ b) = ψ (way a b)) (l : List Pt) : sid (l.map φ) = (sid l).map ψ := by
  rw [sid_map]
  unfold sid
  rw [List.map_map]
  exact List.map_congr_left fun e _ => h _ _
/-! ### grown and moved -/
def grow (k : Int) (w : Pt) (v : Pt) : Pt := (k * v.1 + w.1, k * v.2 + w.2)
theorem Adj.grow {k : Int} (hk : 0 < k) (w : Pt) : Adj (Bay.grow k w) := fun f => ⟨f, k, hk, fun a b => by unfold dt way Bay.grow; simp only; grind⟩
theorem Fen.grow {k : Int} (hk : 0 < k) (w : Pt) {l : List Pt} (h : Fen l) : Fen (l.map (Bay.grow k w)) := by
  refine ⟨h.s.map (Adj.grow hk w), ?_⟩
  rw [areaL_map]
  have : tsum (fun e : Pt × Pt => cr (Bay.grow k w e.1) (Bay.grow k w e.2)) (cyc l) = tsum (fun e : Pt × Pt => k * k * cr e.1 e.2 + ((k * w.1 * e.2.2 - k * w.2 * e.2.1) - (k * w.1 * e.1.2 - k * w.2 * e.1.1))) (cyc l) :=
    tsum_congr fun e _ => by unfold cr Bay.grow; simp only; grind
  rw [this, tsum_add, tsum_mul, tsum_cyc (fun v => k * w.1 * v.2 - k * w.2 * v.1)]
  have := Int.mul_pos (Int.mul_pos hk hk) h.a
  unfold areaL at this
  omega
theorem field_grow {k : Int} (hk : 0 < k) (w : Pt) {l B C E : List Pt} (h : Fen l) (hB : FieldOf l B) (hC : FieldOf (l.map (grow k w)) C) (hE : IsBegun (B.map (grow k w)) E) : E = C := by
  obtain ⟨z, s, D, L, t0, el, hr, eB⟩ := hB.rk
  have h2 := h.grow hk w
  have hsid : sid (l.map (grow k w)) = (sid l).map fun s => (k * s.1 + 0 * s.2, 0 * s.1 + k * s.2) := sid_lin (fun a b => by
    unfold way grow
    exact Prod.ext (by simp only; grind) (by simp only; grind)) l
  have hr2 : Rk (sid (l.map (grow k w))) D (L.map fun p => ((k * p.1.1 + 0 * p.1.2, 0 * p.1.1 + k * p.1.2), p.2)) := by
    rw [hsid]
    have := hr.map (ψ := fun s => (k * s.1 + 0 * s.2, 0 * s.1 + k * s.2)) (ω := id) (fun s hs => sid_ne h.s hs) (fun _ _ => rfl) (fun s _ => by
      rw [← dirOf_mul hk s]
      congr 1
      exact Prod.ext (by simp only; omega) (by simp only; omega)) (fun _ _ e => e) (fun _ hp => hp)
    rw [List.map_id] at this
    exact this
  refine FieldOf.one h2 hC (z := grow k w z) (s := s.map (grow k w)) (by rw [el]; rfl) hr2 (t := t0) ?_
  have e : B.map (grow k w) = rnd (VL (grow k w z) (D.length : Int) (L.map fun p => ((k * p.1.1 + 0 * p.1.2, 0 * p.1.1 + k * p.1.2), p.2))) D.length t0 := by
    rw [eB]
    unfold rnd
    rw [List.map_map]
    refine List.map_congr_left fun i _ => ?_
    have := VL_map k 0 0 k w z (D.length : Int) (t0 + (i : Int)) L
    have ez : grow k w z = (k * z.1 + 0 * z.2 + w.1, 0 * z.1 + k * z.2 + w.2) := Prod.ext (by unfold grow; simp only; omega) (by unfold grow; simp only; omega)
    rw [ez, this]
    exact Prod.ext (by unfold grow; simp only [Function.comp]; omega) (by unfold grow; simp only [Function.comp]; omega)
  rw [← e]
  exact hE
/-! ### turned by a quarter -/
def quar (v : Pt) : Pt := (-v.2, v.1)
theorem Adj.quar : Adj Bay.quar := fun f => ⟨Bay.quar f, 1, by omega, fun a b => by unfold dt way Bay.quar; simp only; grind⟩
theorem cr_quar (a b : Pt) : cr (quar a) (quar b) = cr a b := by unfold cr quar; simp only; grind
theorem Fen.quar {l : List Pt} (h : Fen l) : Fen (l.map Bay.quar) := by
  refine ⟨h.s.map Adj.quar, ?_⟩
  rw [areaL_map]
  simp only [cr_quar]
  exact h.a
theorem dirOf_quar (s : Pt) : dirOf (quar s) = quar (dirOf s) := by
  unfold dirOf quar
  have e : Int.gcd (-s.2) s.1 = Int.gcd s.1 s.2 := by rw [Int.neg_gcd, Int.gcd_comm]
  simp only [e]
  rw [Int.neg_ediv_of_dvd (Int.gcd_dvd_right ..)]
theorem field_quar {l B C E : List Pt} (h : Fen l) (hB : FieldOf l B) (hC : FieldOf (l.map quar) C) (hE : IsBegun (B.map quar) E) : E = C := by
  obtain ⟨z, s, D, L, t0, el, hr, eB⟩ := hB.rk
  have h2 := h.quar
  have hq : ∀ v : Pt, quar v = (0 * v.1 + (-1) * v.2, 1 * v.1 + 0 * v.2) := fun v => Prod.ext (by unfold quar; simp only; omega) (by unfold quar; simp only; omega)
  have hsid : sid (l.map quar) = (sid l).map quar := sid_lin (fun a b => by
    unfold way quar
    exact Prod.ext (by simp only; omega) (by simp only)) l
  have hr2 : Rk (sid (l.map quar)) (D.map quar) (L.map fun p => (quar p.1, p.2)) := by
    rw [hsid]
    refine hr.map (fun s hs => sid_ne h.s hs) cr_quar (fun s _ => dirOf_quar s) (fun a b e => ?_) (fun d hd => ⟨fun e => ?_, ?_⟩)
    · have e1 := congrArg Prod.fst e
      have e2 := congrArg Prod.snd e
      unfold quar at e1 e2
      simp only at e1 e2
      exact Prod.ext e2 (by omega)
    · have e1 := congrArg Prod.fst e
      have e2 := congrArg Prod.snd e
      unfold quar at e1 e2
      simp only at e1 e2
      exact hd.1 (Prod.ext e2 (by simp only; omega))
    · rw [dirOf_quar, hd.2]
  refine FieldOf.one h2 hC (z := quar z) (s := s.map quar) (by rw [el]; rfl) hr2 (t := t0) ?_
  have e : B.map quar = rnd (VL (quar z) ((D.map quar).length : Int) (L.map fun p => (quar p.1, p.2))) (D.map quar).length t0 := by
    rw [eB, List.length_map]
    unfold rnd
    rw [List.map_map]
    refine List.map_congr_left fun i _ => ?_
    have := VL_map 0 (-1) 1 0 (0, 0) z (D.length : Int) (t0 + (i : Int)) L
    have ez : quar z = (0 * z.1 + (-1) * z.2 + (0, 0).1, 1 * z.1 + 0 * z.2 + (0, 0).2) := Prod.ext (by unfold quar; simp only; omega) (by unfold quar; simp only; omega)
    have eL : (L.map fun p : Pt × Int => (quar p.1, p.2)) = L.map fun p => ((0 * p.1.1 + (-1) * p.1.2, 1 * p.1.1 + 0 * p.1.2), p.2) := List.map_congr_left fun p _ => by rw [hq]
    rw [ez, eL, this]
    exact Prod.ext (by unfold quar; simp only [Function.comp]; omega) (by unfold quar; simp only [Function.comp]; omega)
  rw [← e]
  exact hE
/-! ### begun elsewhere -/
theorem Fen.rot {a b : List Pt} (h : Fen (a ++ b)) : Fen (b ++ a) := ⟨h.s.rot, by rw [areaL_rot]; exact h.a⟩
theorem split_map {α β : Type} {f : α → β} : ∀ {L : List α} {p q : List β}, L.map f = p ++ q → ∃ A B, L = A ++ B ∧ A.map f = p ∧ B.map f = q
  | L, [], q, e => ⟨[], L, rfl, rfl, e⟩
  | [], x :: p, q, e => by simp at e
  | y :: L, x :: p, q, e => by
    have e1 : f y = x ∧ L.map f = p ++ q := by simpa using e
    obtain ⟨A, B, h1, h2, h3⟩ := split_map e1.2
    exact ⟨y :: A, B, by rw [h1]; rfl, by rw [List.map_cons, e1.1, h2], h3⟩
theorem ChainC_rot {D : List Pt} {A B : List (Pt × Int)} (hB : B ≠ []) (hA : A ≠ []) (h : ChainC D (A ++ B)) : ChainC D (B ++ A.map (shft (D.length : Int))) := by
  cases A with
  | nil => exact absurd rfl hA
  | cons p A =>
    cases B with
    | nil => exact absurd rfl hB
    | cons q B =>
      have h1 : pathC D ((p :: A) ++ (q :: B) ++ [shft (D.length : Int) p]) := h
      rw [List.append_assoc, List.cons_append (a := q)] at h1
      obtain ⟨h2, h3⟩ := (pathC_append D (p :: A) q (B ++ [shft (D.length : Int) p])).mp h1
      have h4 := pathC_shift D (D.length : Int) _ h2
      show pathC D ((q :: B) ++ (shft (D.length : Int) p :: A.map (shft (D.length : Int))) ++ [shft (D.length : Int) q])
      rw [List.append_assoc, List.cons_append (a := shft (D.length : Int) p)]
      refine (pathC_append D (q :: B) _ _).mpr ⟨h3, ?_⟩
      simpa using h4
theorem sum_sides (c : Pt → Int) (hc : ∀ a b : Pt, c (way a b) = c b - c a) : ∀ (z : Pt) (a : List Pt) (y : Pt), tsum c ((pathE (z :: a ++ [y])).map wayE) = c y - c z := fun z a y => by
  rw [tsum_map]
  have := tsum_path c z (a ++ [y])
  rw [lastP_snoc] at this
  rw [← this]
  exact tsum_congr fun e _ => hc _ _
theorem Rk.rot {z y : Pt} {a b D : List Pt} {L : List (Pt × Int)} (hm : 0 < (D.length : Int)) (h : Rk (sid (z :: a ++ y :: b)) D L) : ∃ K, Rk (sid (y :: b ++ z :: a)) D K ∧ ∀ t, VL y (D.length : Int) K t = VL z (D.length : Int) L t := by
  have e1 : sid (z :: a ++ y :: b) = (pathE (z :: a ++ [y])).map wayE ++ (pathE (y :: b ++ [z])).map wayE := by
    unfold sid
    rw [← List.map_append]
    congr 1
    show pathE ((z :: a) ++ (y :: b) ++ [z]) = _
    rw [List.append_assoc, List.cons_append (a := y), pathE_append]
  have e2 : sid (y :: b ++ z :: a) = (pathE (y :: b ++ [z])).map wayE ++ (pathE (z :: a ++ [y])).map wayE := by
    unfold sid
    rw [← List.map_append]
    congr 1
    show pathE ((y :: b) ++ (z :: a) ++ [y]) = _
    rw [List.append_assoc, List.cons_append (a := z), pathE_append]
  have hs := h.s
  rw [e1] at hs
  obtain ⟨A, B, eL, eA, eB⟩ := split_map hs
  have nA : A ≠ [] := fun e => by
    rw [e] at eA
    cases a <;> simp [pathE] at eA
  have nB : B ≠ [] := fun e => by
    rw [e] at eB
    cases b <;> simp [pathE] at eB
  refine ⟨B ++ A.map (shft (D.length : Int)), ⟨⟨h.d.ds, fun d => ?_⟩, ?_, ?_⟩, fun t => ?_⟩
  · rw [h.d.mem, e1, e2]
    simp only [List.map_append, List.mem_append]
    exact or_comm
  · rw [e2, List.map_append, eB, List.map_map, ← eA]
    rfl
  · refine ChainC_rot nB nA ?_
    rw [← eL]
    exact h.c
  · have key : ∀ c : Pt → Int, (∀ a b : Pt, c (way a b) = c b - c a) → c y + tsum (fun p : Pt × Int => cdiv (t - p.2) (D.length : Int) * c p.1) (B ++ A.map (shft (D.length : Int))) = c z + tsum (fun p : Pt × Int => cdiv (t - p.2) (D.length : Int) * c p.1) L := fun c hc => by
      have s1 := sum_sides c hc z a y
      rw [← eA, tsum_map] at s1
      rw [eL, tsum_append, tsum_append, tsum_map]
      have s2 : tsum (fun p : Pt × Int => cdiv (t - (shft (D.length : Int) p).2) (D.length : Int) * c (shft (D.length : Int) p).1) A = tsum (fun p : Pt × Int => cdiv (t - p.2) (D.length : Int) * c p.1 + (-1) * c p.1) A := tsum_congr fun p _ => by
        have : t - (shft (D.length : Int) p).2 = (t - p.2) + (-1) * (D.length : Int) := by unfold shft; simp only; omega
        rw [this, cdiv_one hm]
        show (_ + -1) * c p.1 = _
        grind
      rw [s2, tsum_add, tsum_mul]
      omega
    unfold VL
    exact Prod.ext (key (fun v => v.1) fun a b => rfl) (key (fun v => v.2) fun a b => rfl)
theorem field_rot {a b B C E : List Pt} (h : Fen (a ++ b)) (hB : FieldOf (a ++ b) B) (hC : FieldOf (b ++ a) C) (hE : IsBegun B E) : E = C := by
  cases a with
  | nil =>
    rw [List.append_nil] at hC
    obtain ⟨z, s, D, L, t0, el, hr, eB⟩ := hB.rk
    exact FieldOf.one h hC el hr (t := t0) (by rw [← eB]; exact hE)
  | cons z a =>
    cases b with
    | nil =>
      rw [List.append_nil] at hB h
      obtain ⟨z', s, D, L, t0, el, hr, eB⟩ := hB.rk
      exact FieldOf.one h hC el hr (t := t0) (by rw [← eB]; exact hE)
    | cons y b =>
      obtain ⟨z', s, D, L, t0, el, hr, eB⟩ := hB.rk
      have ez : z' = z := by simp at el; exact el.1.symm
      subst ez
      obtain ⟨K, hK, hV⟩ := hr.rot (hr.pos h.sds)
      refine FieldOf.one h.rot hC (z := y) (s := b ++ z' :: a) rfl hK (t := t0) ?_
      have : rnd (VL y (D.length : Int) K) D.length t0 = B := by
        rw [eB]
        unfold rnd
        exact List.map_congr_left fun i _ => hV _
      rw [this]
      exact hE
/-! ### mirrored, the other way about -/
def mir (v : Pt) : Pt := (-v.1, v.2)
def kip (v : Pt) : Pt := (v.1, -v.2)
theorem Adj.mir : Adj Bay.mir := fun f => ⟨Bay.mir f, 1, by omega, fun a b => by unfold dt way Bay.mir; simp only; grind⟩
theorem cr_mir (a b : Pt) : cr (mir a) (mir b) = - cr a b := by unfold cr mir; simp only; grind
theorem cr_kip (a b : Pt) : cr (kip a) (kip b) = - cr a b := by unfold cr kip; simp only; grind
theorem Fen.mir {l : List Pt} (h : Fen l) : Fen (l.map Bay.mir).reverse := by
  refine ⟨(h.s.map Adj.mir).rev, ?_⟩
  rw [areaL_rev, areaL_map]
  have : tsum (fun e : Pt × Pt => cr (Bay.mir e.1) (Bay.mir e.2)) (cyc l) = - areaL l := by
    unfold areaL
    rw [← Int.neg_one_mul, ← tsum_mul]
    exact tsum_congr fun e _ => by rw [cr_mir]; omega
  rw [this]
  have := h.a
  omega
theorem dirOf_kip (s : Pt) : dirOf (kip s) = kip (dirOf s) := by
  unfold dirOf kip
  have e : Int.gcd s.1 (-s.2) = Int.gcd s.1 s.2 := by rw [Int.gcd_neg]
  simp only [e]
  rw [Int.neg_ediv_of_dvd (Int.gcd_dvd_right ..)]
theorem dl_kip (D : List Pt) (a b : Pt) : dl (D.map kip) (kip b) (kip a) = dl D a b := by
  unfold dl intr
  have e1 : cr (kip b) (kip a) = cr a b := by rw [cr_kip, cr_anti a b]; omega
  rw [e1, tsum_map, tsum_map]
  have e2 : ∀ a b f : Pt, (decide (0 < cr (kip b) (kip f)) && decide (0 < cr (kip f) (kip a))) = (decide (0 < cr a f) && decide (0 < cr f b)) := fun a b f => by
    rw [cr_kip, cr_kip, cr_anti f b, cr_anti a f, Bool.and_comm]
    congr 1
    · congr 1
      simp
    · congr 1
      simp
  simp only [e2]
def kipR (p : Pt × Int) : Pt × Int := (kip p.1, -p.2)
theorem pathC_kip (D : List Pt) : ∀ L : List (Pt × Int), pathC D L → pathC (D.map kip) (L.map kipR).reverse
  | [], _ => trivial
  | [_], _ => trivial
  | p :: q :: t, h => by
    have ih := pathC_kip D (q :: t) h.2
    have e1 : ((p :: q :: t).map kipR).reverse = (t.map kipR).reverse ++ kipR q :: [kipR p] := by simp
    have e2 : ((q :: t).map kipR).reverse = (t.map kipR).reverse ++ [kipR q] := by simp
    rw [e2] at ih
    rw [e1]
    refine (pathC_append _ _ _ _).mpr ⟨ih, ?_, trivial⟩
    unfold kipR
    simp only
    rw [dirOf_kip, dirOf_kip, dl_kip]
    have := h.1
    omega
theorem cdiv_refl {x m : Int} (hm : 0 < m) : cdiv x m = 1 - cdiv (1 - x) m := by
  have h1 : ∀ k, k < cdiv x m ↔ k < 1 - cdiv (1 - x) m := fun k => by
    rw [lt_cdiv hm]
    have h2 : k < 1 - cdiv (1 - x) m ↔ ¬ (-k < cdiv (1 - x) m) := by omega
    rw [h2, lt_cdiv hm]
    have : -k * m = -(k * m) := by grind
    omega
  have a := h1 (cdiv x m)
  have b := h1 (1 - cdiv (1 - x) m)
  omega
theorem Rk.mir {z : Pt} {s D : List Pt} {L : List (Pt × Int)} (hS : Sds (sid (z :: s))) (h : Rk (sid (z :: s)) D L) :
    ∃ K, Rk (sid (Bay.mir z :: (s.map Bay.mir).reverse)) (D.map kip) K ∧ ∀ t, VL (Bay.mir z) (D.length : Int) K t = Bay.mir (VL z (D.length : Int) L (1 - t)) := by
  have hm := h.pos hS
  have hsid : sid (Bay.mir z :: (s.map Bay.mir).reverse) = ((sid (z :: s)).map kip).reverse := by
    have e : Bay.mir z :: (s.map Bay.mir).reverse = (z :: s.reverse).map Bay.mir := by simp
    rw [e, sid_map, cyc_reverse]
    unfold sid
    rw [List.map_map, List.map_reverse, List.map_map]
    congr 1
    refine List.map_congr_left fun e _ => ?_
    unfold wayE way swp Bay.mir kip
    simp only [Function.comp]
    exact Prod.ext (by simp only; omega) (by simp only; omega)
  refine ⟨(L.map kipR).reverse, ⟨⟨⟨?_, ?_⟩, fun d => ?_⟩, ?_, ?_⟩, fun t => ?_⟩
  · refine List.pairwise_map.mpr (List.Pairwise.imp (fun hne e => hne ?_) h.d.ds.nd)
    have e1 := congrArg Prod.fst e
    have e2 := congrArg Prod.snd e
    unfold kip at e1 e2
    simp only at e1 e2
    exact Prod.ext e1 (by omega)
  · intro d hd
    obtain ⟨e, he, rfl⟩ := List.mem_map.mp hd
    have hp := h.d.ds.pr e he
    refine ⟨fun k => ?_, by rw [dirOf_kip, hp.2]⟩
    have e1 := congrArg Prod.fst k
    have e2 := congrArg Prod.snd k
    unfold kip at e1 e2
    simp only at e1 e2
    exact hp.1 (Prod.ext e1 (by simp only; omega))
  · rw [hsid]
    constructor
    · intro hd
      obtain ⟨e, he, rfl⟩ := List.mem_map.mp hd
      obtain ⟨u, hu, rfl⟩ := List.mem_map.mp ((h.d.mem e).mp he)
      rw [← dirOf_kip]
      exact List.mem_map_of_mem (List.mem_reverse.mpr (List.mem_map_of_mem hu))
    · intro hd
      obtain ⟨e, he, rfl⟩ := List.mem_map.mp hd
      obtain ⟨u, hu, rfl⟩ := List.mem_map.mp (List.mem_reverse.mp he)
      rw [dirOf_kip]
      exact List.mem_map_of_mem ((h.d.mem _).mpr (List.mem_map_of_mem hu))
  · rw [hsid, ← h.s, List.map_reverse, List.map_map, List.map_map]
    rfl
  · have hc := h.c
    cases hL : L with
    | nil => trivial
    | cons p t =>
      rw [hL] at hc
      have h1 := pathC_kip D _ hc
      have e1 : ((p :: t ++ [(p.1, p.2 + (D.length : Int))]).map kipR).reverse = (kip p.1, -(p.2 + (D.length : Int))) :: ((t.map kipR).reverse ++ [kipR p]) := by simp [kipR]
      rw [e1] at h1
      have h2 : ChainC (D.map kip) ((kip p.1, -(p.2 + (D.length : Int))) :: (t.map kipR).reverse) := by
        show pathC (D.map kip) ((kip p.1, -(p.2 + (D.length : Int))) :: (t.map kipR).reverse ++ [(kip p.1, -(p.2 + (D.length : Int)) + ((D.map kip).length : Int))])
        rw [List.length_map]
        have e2 : (kip p.1, -(p.2 + (D.length : Int)) + (D.length : Int)) = kipR p := Prod.ext rfl (by unfold kipR; simp only; omega)
        rw [e2]
        exact h1
      cases t with
      | nil =>
        have e3 : ([p].map kipR).reverse = [shft (D.length : Int) (kip p.1, -(p.2 + (D.length : Int)))] := by
          show [kipR p] = _
          congr 1
          exact Prod.ext rfl (by unfold kipR shft; simp only; omega)
        rw [e3]
        exact ChainC_shift (D.length : Int) h2
      | cons q t =>
        have h3 := ChainC_rot (A := [(kip p.1, -(p.2 + (D.length : Int)))]) (B := ((q :: t).map kipR).reverse) (by simp) (by simp) h2
        have e4 : ((q :: t).map kipR).reverse ++ [(kip p.1, -(p.2 + (D.length : Int)))].map (shft ((D.map kip).length : Int)) = ((p :: q :: t).map kipR).reverse := by
          have : [(kip p.1, -(p.2 + (D.length : Int)))].map (shft ((D.map kip).length : Int)) = [kipR p] := by
            show [shft _ _] = [kipR p]
            congr 1
            exact Prod.ext rfl (by unfold kipR shft; simp only [List.length_map]; omega)
          rw [this]
          simp
        rw [← e4]
        exact h3
  · have key : ∀ c d : Pt → Int, (∀ v, d (kip v) = - c v) → tsum c (sid (z :: s)) = 0 → tsum (fun p : Pt × Int => cdiv (t - p.2) (D.length : Int) * d p.1) (L.map kipR).reverse = tsum (fun p : Pt × Int => cdiv (1 - t - p.2) (D.length : Int) * c p.1) L := fun c d hcd hz => by
      rw [tsum_perm _ (List.reverse_perm _), tsum_map]
      have : tsum (fun p : Pt × Int => cdiv (t - (kipR p).2) (D.length : Int) * d (kipR p).1) L = tsum (fun p : Pt × Int => cdiv (1 - t - p.2) (D.length : Int) * c p.1 + (-1) * c p.1) L := tsum_congr fun p _ => by
        have e : t - (kipR p).2 = t + p.2 := by unfold kipR; simp only; omega
        rw [e, cdiv_refl hm, show 1 - (t + p.2) = 1 - t - p.2 by omega]
        show _ * d (kip p.1) = _
        rw [hcd]
        grind
      rw [this, tsum_add, tsum_mul]
      have : tsum (fun p : Pt × Int => c p.1) L = 0 := by rw [← hz, ← h.s, tsum_map]
      omega
    have k1 := key (fun v => -v.1) (fun v => v.1) (fun v => by unfold kip; simp only; omega) (by
      have := tsum_mul (-1) (fun v : Pt => v.1) (sid (z :: s))
      rw [hS.z1] at this
      rw [show tsum (fun v : Pt => -v.1) (sid (z :: s)) = tsum (fun v : Pt => (-1) * v.1) (sid (z :: s)) from tsum_congr fun v _ => by omega]
      omega)
    have k2 := key (fun v => v.2) (fun v => v.2) (fun v => by unfold kip; simp only) hS.z2
    unfold VL Bay.mir
    simp only at k1 k2 ⊢
    rw [k1, k2]
    have : tsum (fun p : Pt × Int => cdiv (1 - t - p.2) (D.length : Int) * -p.1.1) L = - tsum (fun p : Pt × Int => cdiv (1 - t - p.2) (D.length : Int) * p.1.1) L := by
      rw [← Int.neg_one_mul, ← tsum_mul]
      exact tsum_congr fun p _ => by grind
    rw [this]
    exact Prod.ext (by simp only; omega) rfl
theorem field_mir {l B C E : List Pt} (h : Fen l) (hB : FieldOf l B) (hC : FieldOf (l.map mir).reverse C) (hE : IsBegun (B.map mir).reverse E) : E = C := by
  obtain ⟨z, s, D, L, t0, el, hr, eB⟩ := hB.rk
  subst el
  obtain ⟨K, hK, hV⟩ := hr.mir h.sds
  have h2 := h.mir
  have e1 : ((z :: s).map mir).reverse = (s.map mir).reverse ++ [mir z] := by simp
  rw [e1] at hC h2
  have h3 : Fen ([mir z] ++ (s.map mir).reverse) := h2.rot
  -- the round of B, the other way about
  have hlen : ((D.map kip).length : Int) = (D.length : Int) := by rw [List.length_map]
  have e2 : (B.map mir).reverse = rnd (VL (mir z) ((D.map kip).length : Int) K) (D.map kip).length (2 - t0 - (D.length : Int)) := by
    rw [eB, hlen, List.length_map]
    refine List.ext_getElem (by simp [rnd]) fun i h1 h2 => ?_
    have hi : i < D.length := by simpa [rnd] using h2
    simp only [rnd, List.getElem_reverse, List.getElem_map, List.getElem_range, List.length_map, List.length_range]
    rw [hV]
    congr 2
    omega
  cases hs : (s.map mir).reverse with
  | nil =>
    have hl := h.s.len
    have : s = [] := by simpa using hs
    rw [this] at hl
    simp at hl
  | cons y b =>
    rw [hs] at hC h2 h3 hK
    obtain ⟨K2, hK2, hV2⟩ := Rk.rot (z := mir z) (a := []) (y := y) (b := b) (hK.pos h3.sds) hK
    refine FieldOf.one h2 hC (z := y) (s := b ++ [mir z]) rfl hK2 (t := 2 - t0 - (D.length : Int)) ?_
    have e3 : rnd (VL y ((D.map kip).length : Int) K2) (D.map kip).length (2 - t0 - (D.length : Int)) = (B.map mir).reverse := by
      rw [e2]
      unfold rnd
      exact List.map_congr_left fun i _ => hV2 _
    rw [e3]
    exact hE
/-! ### straight corners put in -/
def dbl (v : Pt) : Pt := (2 * v.1, 2 * v.2)
def hv (E : List ((Pt × Pt) × Bool)) : List Pt := E.flatMap fun x => if x.2 then [dbl x.1.1, addP x.1.1 x.1.2] else [dbl x.1.1]
def ST (l : List Pt) : Prop := Simple l ∧ tot l = 1
theorem ST.rot {a b : List Pt} (h : ST (a ++ b)) : ST (b ++ a) := ⟨h.1.rot, by rw [← tot_rot]; exact h.2⟩
theorem ST.ins {a m b : Pt} {x y : List Pt} (h : ST (x ++ a :: b :: y)) (hm : Btw a m b) : ST (x ++ a :: m :: b :: y) := by
  have h1 : ST (a :: b :: (y ++ x)) := h.rot
  have h2 : ST ((a :: m :: b :: y) ++ x) := ⟨h1.1.ins hm, by rw [← h1.2]; exact tot_ins hm⟩
  exact h2.rot
theorem ST.insLast {a m z : Pt} {x : List Pt} (h : ST (z :: x ++ [a])) (hm : Btw a m z) : ST (z :: x ++ [a, m]) := by
  have h1 : ST ([a] ++ z :: x) := h.rot
  have h2 : ST ([a, m] ++ z :: x) := ⟨h1.1.ins hm, by rw [← h1.2]; exact tot_ins hm⟩
  exact h2.rot
theorem btw_mid (a b : Pt) : Btw (dbl a) (addP a b) (dbl b) := ⟨1, 1, by omega, by omega, by unfold dbl addP; simp only; omega, by unfold dbl addP; simp only; omega⟩
theorem hv_cons (x : (Pt × Pt) × Bool) (E : List ((Pt × Pt) × Bool)) : hv (x :: E) = (if x.2 then [dbl x.1.1, addP x.1.1 x.1.2] else [dbl x.1.1]) ++ hv E := rfl
theorem hv_st : ∀ (s : List Pt) (a z : Pt) (X : List Pt) (E : List ((Pt × Pt) × Bool)), E.map (·.1) = pathE (a :: s ++ [z]) → (X ++ (a :: s).map dbl).head? = some (dbl z) → ST (X ++ (a :: s).map dbl) → ST (X ++ hv E)
  | [], a, z, X, E, hE, hh, h => by
    cases E with
    | nil => cases hE
    | cons x E =>
      have e1 : x.1 = (a, z) ∧ E = [] := by
        have := hE
        simp only [List.map_cons, List.cons_append, List.nil_append, pathE] at this
        have h2 := List.cons.inj this
        exact ⟨h2.1, by simpa using h2.2⟩
      obtain ⟨e1, rfl⟩ := e1
      rw [hv_cons, e1]
      cases x.2 with
      | false =>
        show ST (X ++ ([dbl a] ++ []))
        simpa using h
      | true =>
        show ST (X ++ ([dbl a, addP a z] ++ []))
        rw [List.append_nil]
        cases X with
        | nil =>
          have := h.1.len
          simp at this
        | cons w X =>
          have ew : w = dbl z := by simpa using hh
          subst ew
          exact ST.insLast h (btw_mid a z)
  | b :: s, a, z, X, E, hE, hh, h => by
    cases E with
    | nil => cases hE
    | cons x E =>
      have e1 : x.1 = (a, b) ∧ E.map (·.1) = pathE (b :: s ++ [z]) := List.cons.inj hE
      rw [hv_cons, e1.1]
      cases x.2 with
      | false =>
        show ST (X ++ ([dbl a] ++ hv E))
        rw [← List.append_assoc]
        refine hv_st s b z (X ++ [dbl a]) E e1.2 ?_ ?_
        · rw [List.append_assoc]
          exact hh
        · rw [List.append_assoc]
          exact h
      | true =>
        show ST (X ++ ([dbl a, addP a b] ++ hv E))
        rw [← List.append_assoc]
        refine hv_st s b z (X ++ [dbl a, addP a b]) E e1.2 ?_ ?_
        · rw [List.append_assoc]
          cases X with
          | nil => exact hh
          | cons w X => exact hh
        · rw [List.append_assoc]
          exact ST.ins (y := s.map dbl) h (btw_mid a b)
theorem dbl_grow (v : Pt) : dbl v = grow 2 (0, 0) v := by unfold dbl grow; exact Prod.ext (by simp only; omega) (by simp only; omega)
theorem hv_fen {l : List Pt} (h : Fen l) {E : List ((Pt × Pt) × Bool)} (hE : E.map (·.1) = cyc l) : Fen (hv E) := by
  have e : l.map dbl = l.map (grow 2 (0, 0)) := List.map_congr_left fun v _ => dbl_grow v
  have h2 : Fen (l.map dbl) := by rw [e]; exact h.grow (by omega) _
  cases l with
  | nil => have := h.s.len; simp at this
  | cons z s =>
    have := hv_st s z z [] E hE rfl ⟨h2.s, h2.tot⟩
    exact ⟨this.1, area_pos this.1 this.2⟩
theorem hv_sid : ∀ (s : List Pt) (a z : Pt) (E : List ((Pt × Pt) × Bool)), E.map (·.1) = pathE (a :: s ++ [z]) →
    (∃ t, hv E ++ [dbl z] = dbl a :: t) ∧ (pathE (hv E ++ [dbl z])).map wayE = E.flatMap fun x => if x.2 then [wayE x.1, wayE x.1] else [dbl (wayE x.1)]
  | s, a, z, [], hE => by cases s <;> cases hE
  | s, a, z, x :: E, hE => by
    have hmid1 : ∀ a b : Pt, way (dbl a) (addP a b) = way a b := fun a b => by unfold way dbl addP; exact Prod.ext (by simp only; omega) (by simp only; omega)
    have hmid2 : ∀ a b : Pt, way (addP a b) (dbl b) = way a b := fun a b => by unfold way dbl addP; exact Prod.ext (by simp only; omega) (by simp only; omega)
    have hd : ∀ a b : Pt, way (dbl a) (dbl b) = dbl (way a b) := fun a b => by unfold way dbl; exact Prod.ext (by simp only; omega) (by simp only; omega)
    have next : ∃ b t, x.1 = (a, b) ∧ hv E ++ [dbl z] = dbl b :: t ∧ (pathE (dbl b :: t)).map wayE = E.flatMap fun x => if x.2 then [wayE x.1, wayE x.1] else [dbl (wayE x.1)] := by
      cases s with
      | nil =>
        have h2 := List.cons.inj (show x.1 :: E.map (·.1) = [(a, z)] from hE)
        have : E = [] := by simpa using h2.2
        subst this
        exact ⟨z, [], h2.1, rfl, rfl⟩
      | cons b s =>
        have h2 := List.cons.inj (show x.1 :: E.map (·.1) = (a, b) :: pathE (b :: s ++ [z]) from hE)
        obtain ⟨⟨t, et⟩, ih⟩ := hv_sid s b z E h2.2
        rw [et] at ih
        exact ⟨b, t, h2.1, et, ih⟩
    obtain ⟨b, t, e1, e2, e3⟩ := next
    rw [hv_cons, e1, List.flatMap_cons, e1, ← e3]
    cases x.2 with
    | false =>
      have e4 : (if false = true then [dbl (a, b).1, addP (a, b).1 (a, b).2] else [dbl (a, b).1]) ++ hv E ++ [dbl z] = dbl a :: dbl b :: t := by
        rw [List.append_assoc, e2]; rfl
      rw [e4]
      refine ⟨⟨_, rfl⟩, ?_⟩
      show way (dbl a) (dbl b) :: _ = dbl (way a b) :: _
      rw [hd]
      rfl
    | true =>
      have e4 : (if true = true then [dbl (a, b).1, addP (a, b).1 (a, b).2] else [dbl (a, b).1]) ++ hv E ++ [dbl z] = dbl a :: addP a b :: dbl b :: t := by
        rw [List.append_assoc, e2]; rfl
      rw [e4]
      refine ⟨⟨_, rfl⟩, ?_⟩
      show way (dbl a) (addP a b) :: way (addP a b) (dbl b) :: _ = way a b :: way a b :: _
      rw [hmid1, hmid2]
      rfl
def hvR (x : (Pt × Int) × Bool) : List (Pt × Int) := if x.2 then [x.1, x.1] else [(dbl x.1.1, x.1.2)]
theorem dirOf_dbl (s : Pt) : dirOf (dbl s) = dirOf s := dirOf_mul (by omega) s
theorem dl_self (D : List Pt) (a : Pt) : dl D a a = 0 := by unfold dl; rw [cr_self]; simp
theorem pathC_hv {D : List Pt} : ∀ (M : List ((Pt × Int) × Bool)) (p : Pt) (r : Int), pathC D (M.map (·.1) ++ [(p, r)]) → ∀ p', dirOf p' = dirOf p → pathC D (M.flatMap hvR ++ [(p', r)])
  | [], p, r, _, p', _ => trivial
  | x :: M, p, r, h, p', hp => by
    have hd : ∀ q : Pt × Int, q.1 = x.1.1 ∨ q.1 = dbl x.1.1 → dirOf q.1 = dirOf x.1.1 := fun q hq => by
      rcases hq with g | g
      · rw [g]
      · rw [g, dirOf_dbl]
    -- what comes next
    have next : ∃ (q : Pt × Int) (t : List (Pt × Int)), M.flatMap hvR ++ [(p', r)] = q :: t ∧ q.2 = x.1.2 + dl D (dirOf x.1.1) (dirOf q.1) ∧ pathC D (q :: t) := by
      cases M with
      | nil =>
        refine ⟨(p', r), [], rfl, ?_, trivial⟩
        have := h.1
        simp only at this ⊢
        rw [hp]
        exact this
      | cons y M =>
        have ih := pathC_hv (y :: M) p r h.2 p' hp
        have h1 : y.1.2 = x.1.2 + dl D (dirOf x.1.1) (dirOf y.1.1) := h.1
        rw [List.flatMap_cons] at ih ⊢
        unfold hvR at ih ⊢
        cases hy : y.2 with
        | true =>
          rw [hy] at ih
          exact ⟨y.1, _, rfl, h1, ih⟩
        | false =>
          rw [hy] at ih
          exact ⟨(dbl y.1.1, y.1.2), _, rfl, by simp only; rw [dirOf_dbl]; exact h1, ih⟩
    obtain ⟨q, t, e1, e2, e3⟩ := next
    rw [List.flatMap_cons, List.append_assoc, e1]
    unfold hvR
    cases x.2 with
    | true =>
      refine ⟨?_, e2, e3⟩
      rw [dl_self]
      omega
    | false =>
      refine ⟨?_, e3⟩
      simp only
      rw [dirOf_dbl]
      exact e2
theorem field_hv {l B C X : List Pt} (h : Fen l) {E : List ((Pt × Pt) × Bool)} (hE : E.map (·.1) = cyc l) (hB : FieldOf l B) (hC : FieldOf (hv E) C) (hX : IsBegun (B.map dbl) X) : X = C := by
  obtain ⟨z, s, D, L, t0, el, hr, eB⟩ := hB.rk
  subst el
  have hm := hr.pos h.sds
  have h2 := hv_fen h hE
  obtain ⟨⟨u, eu⟩, hsid⟩ := hv_sid s z z E hE
  -- the list begins with z, doubled
  have hhead : ∃ v, hv E = dbl z :: v := by
    cases hh : hv E with
    | nil => rw [hh] at h2; have := h2.s.len; simp at this
    | cons a v =>
      rw [hh] at eu
      have := (List.cons.inj eu).1
      exact ⟨v, by rw [this]⟩
  obtain ⟨v, ev⟩ := hhead
  have hsid2 : sid (hv E) = E.flatMap fun x => if x.2 then [wayE x.1, wayE x.1] else [dbl (wayE x.1)] := by
    rw [← hsid]
    unfold sid
    congr 1
    rw [ev]
    rfl
  -- sides and ranks with the draws
  have hlenE : L.length = E.length := by
    have e1 : (L.map (·.1)).length = (sid (z :: s)).length := by rw [hr.s]
    have e2 : (sid (z :: s)).length = (E.map (·.1)).length := by unfold sid; rw [hE, List.length_map]
    simpa using e1.trans e2
  let M : List ((Pt × Int) × Bool) := L.zip (E.map (·.2))
  have hM1 : M.map (·.1) = L := by
    show (L.zip (E.map (·.2))).map Prod.fst = L
    rw [List.map_fst_zip]
    rw [List.length_map]; omega
  have hMs : (M.flatMap hvR).map (·.1) = sid (hv E) := by
    rw [hsid2]
    have key : ∀ (L : List (Pt × Int)) (E : List ((Pt × Pt) × Bool)), L.map (·.1) = E.map (fun x => wayE x.1) → ((L.zip (E.map (·.2))).flatMap hvR).map (·.1) = E.flatMap fun x => if x.2 then [wayE x.1, wayE x.1] else [dbl (wayE x.1)] := by
      intro L
      induction L with
      | nil =>
        intro E e
        cases E with
        | nil => rfl
        | cons _ _ => simp at e
      | cons p L ih =>
        intro E e
        cases E with
        | nil => simp at e
        | cons x E =>
          have e1 : p.1 = wayE x.1 ∧ L.map (·.1) = E.map (fun x => wayE x.1) := by simpa using e
          have := ih E e1.2
          show (hvR (p, x.2) ++ (L.zip (E.map (·.2))).flatMap hvR).map (·.1) = (if x.2 then [wayE x.1, wayE x.1] else [dbl (wayE x.1)]) ++ _
          rw [List.map_append, this]
          congr 1
          unfold hvR
          cases x.2 with
          | true => simp [e1.1]
          | false => simp [e1.1]
    refine key L E ?_
    rw [hr.s]
    unfold sid
    rw [← hE, List.map_map]
    rfl
  have hr2 : Rk (sid (hv E)) D (M.flatMap hvR) := by
    refine ⟨⟨hr.d.ds, fun d => ?_⟩, hMs, ?_⟩
    · rw [hr.d.mem, ← hr.s, ← hMs, ← hM1]
      simp only [List.mem_map, List.mem_flatMap]
      constructor
      · rintro ⟨_, ⟨_, ⟨x, hx, rfl⟩, rfl⟩, rfl⟩
        cases hf : x.2 with
        | true => exact ⟨x.1.1, ⟨x.1, ⟨x, hx, by unfold hvR; rw [hf]; simp⟩, rfl⟩, rfl⟩
        | false => exact ⟨dbl x.1.1, ⟨(dbl x.1.1, x.1.2), ⟨x, hx, by unfold hvR; rw [hf]; simp⟩, rfl⟩, dirOf_dbl _⟩
      · rintro ⟨_, ⟨p, ⟨x, hx, hp⟩, rfl⟩, rfl⟩
        refine ⟨x.1.1, ⟨x.1, ⟨x, hx, rfl⟩, rfl⟩, ?_⟩
        unfold hvR at hp
        cases hf : x.2 with
        | true =>
          rw [hf] at hp
          have : p = x.1 := by simpa using hp
          rw [this]
        | false =>
          rw [hf] at hp
          have : p = (dbl x.1.1, x.1.2) := by simpa using hp
          rw [this]
          exact (dirOf_dbl _).symm
    · have hc := hr.c
      rw [← hM1] at hc
      cases hMM : M with
      | nil => trivial
      | cons x M2 =>
        rw [hMM] at hc
        have h1 : pathC D ((x :: M2).map (·.1) ++ [(x.1.1, x.1.2 + (D.length : Int))]) := hc
        rw [List.flatMap_cons]
        unfold hvR
        cases hf : x.2 with
        | true =>
          have := pathC_hv _ _ _ h1 x.1.1 rfl
          rw [List.flatMap_cons] at this
          unfold hvR at this
          rw [hf] at this
          exact this
        | false =>
          have := pathC_hv _ _ _ h1 (dbl x.1.1) (dirOf_dbl _)
          rw [List.flatMap_cons] at this
          unfold hvR at this
          rw [hf] at this
          exact this
  refine FieldOf.one h2 hC (z := dbl z) (s := v) ev hr2 (t := t0) ?_
  have e : rnd (VL (dbl z) (D.length : Int) (M.flatMap hvR)) D.length t0 = B.map dbl := by
    rw [eB]
    unfold rnd
    rw [List.map_map]
    refine List.map_congr_left fun i _ => ?_
    have key : ∀ c : Pt → Int, (∀ v, c (dbl v) = 2 * c v) → tsum (fun p : Pt × Int => cdiv (t0 + (i : Int) - p.2) (D.length : Int) * c p.1) (M.flatMap hvR) = 2 * tsum (fun p : Pt × Int => cdiv (t0 + (i : Int) - p.2) (D.length : Int) * c p.1) L := fun c hc => by
      rw [← hM1]
      generalize M = M
      induction M with
      | nil => rfl
      | cons x M ih =>
        rw [List.flatMap_cons, tsum_append, ih, List.map_cons]
        show _ = 2 * (_ + tsum _ _)
        unfold hvR
        cases x.2 with
        | true => simp only [if_true, tsum]; grind
        | false => simp only [if_false, tsum, Bool.false_eq_true]; rw [hc]; grind
    have k1 := key (fun v => v.1) (fun v => rfl)
    have k2 := key (fun v => v.2) (fun v => rfl)
    simp only [Function.comp]
    unfold VL dbl
    simp only at k1 k2 ⊢
    rw [k1, k2]
    exact Prod.ext (by simp only; omega) (by simp only; omega)
  rw [e]
  exact hX
/-! ## What the program reckons is the field -/
def sd (l : List Pt) (i : Nat) : Pt := (sid l).getD i (0, 0)
def dr (l : List Pt) (i : Nat) : Pt := dirOf (sd l i)
def rdN (d : Nat → Pt) : Nat → Int
  | 0 => 0
  | i + 1 => rdN d i + pe (d i) (d (i + 1))
def rkN (D : List Pt) (l : List Pt) (i : Nat) : Int := rdN (dr l) i * (D.length : Int) + num D (dr l i)
theorem cyc_len : ∀ l : List Pt, (cyc l).length = l.length
  | [] => rfl
  | x :: t => by
    have : ∀ (x : Pt) (s : List Pt) (y : Pt), (pathE (x :: s ++ [y])).length = (x :: s).length := by
      intro x s y
      induction s generalizing x with
      | nil => rfl
      | cons b s ih => exact congrArg Nat.succ (ih b)
    exact this x t x
theorem sid_len (l : List Pt) : (sid l).length = l.length := by unfold sid; rw [List.length_map, cyc_len]
theorem sd_mem {l : List Pt} {i : Nat} (hi : i < l.length) : sd l i ∈ sid l := by
  unfold sd
  rw [← sid_len] at hi
  rw [List.getD_eq_getElem?_getD, List.getElem?_eq_getElem hi]
  exact List.getElem_mem hi
theorem sid_range (l : List Pt) : (List.range l.length).map (sd l) = sid l := by
  refine List.ext_getElem (by simp [sid_len]) fun i h1 h2 => ?_
  simp only [List.getElem_map, List.getElem_range]
  unfold sd
  rw [List.getD_eq_getElem?_getD, List.getElem?_eq_getElem h2]
  rfl
theorem peSum_range (f : Nat → Pt) : ∀ (n : Nat), peSum ((List.range (n + 1)).map f) = rdN f n
  | 0 => rfl
  | n + 1 => by
    have e : (List.range (n + 1 + 1)).map f = (List.range n).map f ++ f n :: [f (n + 1)] := by
      rw [List.range_succ, List.range_succ]; simp
    have e2 : (List.range (n + 1)).map f = (List.range n).map f ++ [f n] := by
      rw [List.range_succ]; simp
    rw [e, peSum_append, ← e2, peSum_range f n]
    show rdN f n + (pe (f n) (f (n + 1)) + 0) = rdN f n + pe (f n) (f (n + 1))
    omega
theorem sd_goes {l : List Pt} (h : Fen l) {i : Nat} (hi : i + 1 < l.length) : goesOn (sd l i) (sd l (i + 1)) := by
  have hs := h.sds.go
  refine hs (sd l i, sd l (i + 1)) ?_
  have e : sid l = (List.range i).map (sd l) ++ sd l i :: (sd l (i + 1) :: ((List.range (l.length - (i + 2))).map fun k => sd l (i + 2 + k))) := by
    rw [← sid_range]
    refine List.ext_getElem (by simp; omega) fun j h1 h2 => ?_
    rw [List.getElem_append]
    simp only [List.getElem_map, List.getElem_range, List.length_map, List.length_range]
    split
    · rfl
    · rename_i hj
      obtain ⟨k, hk⟩ : ∃ k, j = i + k := ⟨j - i, by omega⟩
      subst hk
      have : i + k - i = k := by omega
      simp only [this]
      match k with
      | 0 => rfl
      | 1 => rfl
      | k + 2 => simp; congr 1; omega
  rw [e, List.append_assoc, List.cons_append, pathE_append]
  refine List.mem_append_right _ ?_
  exact List.mem_cons_self ..
theorem sd_closes {l : List Pt} (h : Fen l) : goesOn (sd l (l.length - 1)) (sd l 0) := by
  have hs := h.sds.go
  have hl := h.s.len
  refine hs (sd l (l.length - 1), sd l 0) ?_
  have e : sid l ++ (sid l).take 1 = (List.range (l.length - 1)).map (sd l) ++ sd l (l.length - 1) :: [sd l 0] := by
    rw [← sid_range]
    obtain ⟨k, hk⟩ : ∃ k, l.length = k + 1 := ⟨l.length - 1, by omega⟩
    rw [hk]
    have e1 : ((List.range (k + 1)).map (sd l)).take 1 = [sd l 0] := by
      rw [List.range_succ_eq_map]; rfl
    rw [e1, List.range_succ, List.map_append]
    simp
  rw [e, pathE_append]
  exact List.mem_append_right _ (List.mem_cons_self ..)
theorem rdN_close {l : List Pt} (h : Fen l) : rdN (dr l) (l.length - 1) + pe (dr l (l.length - 1)) (dr l 0) = 1 := by
  have hl := h.s.len
  have al : ∀ i, i < l.length → Alike (sd l i) (dr l i) := fun i hi => dirOf_alike (sid_ne h.s (sd_mem hi))
  have hpe : ∀ i j, i < l.length → j < l.length → pe (dr l i) (dr l j) = pe (sd l i) (sd l j) := fun i j hi hj => by
    rw [← ((al i hi).pe _).1, ← ((al j hj).pe _).2]
  have e1 : ∀ k, k < l.length → rdN (dr l) k = rdN (sd l) k := fun k => by
    induction k with
    | zero => intro _; rfl
    | succ k ih =>
      intro hk
      show rdN (dr l) k + _ = rdN (sd l) k + _
      rw [ih (by omega), hpe k (k + 1) (by omega) hk]
  rw [e1 _ (by omega), hpe _ _ (by omega) (by omega)]
  have ht := h.tot
  unfold tot at ht
  have e2 : totS (sid l) = peSum ((List.range l.length).map (sd l) ++ [sd l 0]) := by
    rw [← sid_range]
    obtain ⟨k, hk⟩ : ∃ k, l.length = k + 1 := ⟨l.length - 1, by omega⟩
    rw [hk, List.range_succ_eq_map]
    rfl
  rw [e2] at ht
  obtain ⟨k, hk⟩ : ∃ k, l.length = k + 1 := ⟨l.length - 1, by omega⟩
  rw [hk] at ht ⊢
  have e3 : (List.range (k + 1)).map (sd l) ++ [sd l 0] = (List.range k).map (sd l) ++ sd l k :: [sd l 0] := by
    rw [List.range_succ]; simp
  have e4 : (List.range k).map (sd l) ++ [sd l k] = (List.range (k + 1)).map (sd l) := by
    rw [List.range_succ]; simp
  rw [e3, peSum_append, e4, peSum_range] at ht
  simp only [peSum] at ht
  simp only [Nat.add_sub_cancel]
  omega
theorem pathC_range {D : List Pt} (f : Nat → Pt × Int) (n : Nat) (h : ∀ i, i + 1 < n → (f (i + 1)).2 = (f i).2 + dl D (dirOf (f i).1) (dirOf (f (i + 1)).1)) (q : Pt × Int)
    (hq : ∀ i, i + 1 = n → q.2 = (f i).2 + dl D (dirOf (f i).1) (dirOf q.1)) : pathC D ((List.range n).map f ++ [q]) := by
  induction n generalizing q with
  | zero => trivial
  | succ n ih =>
    have e : (List.range (n + 1)).map f ++ [q] = (List.range n).map f ++ f n :: [q] := by rw [List.range_succ]; simp
    rw [e]
    refine (pathC_append D _ _ _).mpr ⟨?_, hq n rfl, trivial⟩
    exact ih (fun i hi => h i (by omega)) (f n) fun i hi => by
      subst hi
      exact h i (by omega)
theorem rk_prog {l D : List Pt} (h : Fen l) (hD : IsD (sid l) D) : Rk (sid l) D ((List.range l.length).map fun i => (sd l i, rkN D l i)) := by
  have hl := h.s.len
  have hmem : ∀ i, i < l.length → dr l i ∈ D := fun i hi => (hD.mem _).mpr (List.mem_map_of_mem (sd_mem hi))
  have al : ∀ i, i < l.length → Alike (sd l i) (dr l i) := fun i hi => dirOf_alike (sid_ne h.s (sd_mem hi))
  refine ⟨hD, ?_, ?_⟩
  · rw [List.map_map]
    exact sid_range l
  · obtain ⟨k, hk⟩ : ∃ k, l.length = k + 1 := ⟨l.length - 1, by omega⟩
    have e : ChainC D ((List.range l.length).map fun i => (sd l i, rkN D l i)) ↔ pathC D ((List.range l.length).map (fun i => (sd l i, rkN D l i)) ++ [(sd l 0, rkN D l 0 + (D.length : Int))]) := by
      rw [hk, List.range_succ_eq_map]
      exact Iff.rfl
    rw [e]
    refine pathC_range _ _ (fun i hi => ?_) _ fun i hi => ?_
    · have g : goesOn (dr l i) (dr l (i + 1)) := by
        rw [← ((al i (by omega)).goesOn).1, ← ((al (i + 1) hi).goesOn).2]
        exact sd_goes h hi
      have := step hD.ds (hmem i (by omega)) (hmem (i + 1) hi) g
      show rkN D l (i + 1) = rkN D l i + dl D (dr l i) (dr l (i + 1))
      rw [← this]
      unfold rkN
      show (rdN (dr l) i + pe (dr l i) (dr l (i + 1))) * (D.length : Int) + _ = _
      grind
    · have ei : i = l.length - 1 := by omega
      subst ei
      have g : goesOn (dr l (l.length - 1)) (dr l 0) := by
        rw [← ((al (l.length - 1) (by omega)).goesOn).1, ← ((al 0 (by omega)).goesOn).2]
        exact sd_closes h
      have := step hD.ds (hmem (l.length - 1) (by omega)) (hmem 0 (by omega)) g
      have c := rdN_close h
      show rkN D l 0 + (D.length : Int) = rkN D l (l.length - 1) + dl D (dr l (l.length - 1)) (dr l 0)
      rw [← this]
      unfold rkN
      have e0 : rdN (dr l) 0 = 0 := rfl
      rw [e0]
      generalize rdN (dr l) (l.length - 1) = a at *
      generalize pe (dr l (l.length - 1)) (dr l 0) = b at *
      have : a = 1 - b := by omega
      rw [this]
      grind
theorem VL_range (z : Pt) (m t : Int) (n : Nat) (s : Nat → Pt) (r : Nat → Int) : VL z m ((List.range n).map fun i => (s i, r i)) t = (VV n m r z.1 (fun i => (s i).1) t, VV n m r z.2 (fun i => (s i).2) t) := by
  unfold VL VV
  rw [tsum_map, tsum_map]
/-- the corner ahead of place t -/
def qN (n : Nat) (P : Nat → Int) (z : Pt) (s R : Nat → Pt) (t : Nat) : Pt :=
  (z.1 - tsum (fun i => P i / (n : Int) * (s i).1) (List.range n) + tsum (fun u : Nat => (R u).1) (List.range t), z.2 - tsum (fun i => P i / (n : Int) * (s i).2) (List.range n) + tsum (fun u : Nat => (R u).2) (List.range t))
theorem algo {z : Pt} {s D : List Pt} (h : Fen (z :: s)) (hD : IsD (sid (z :: s)) D) {n : Nat} (hn : n = (z :: s).length) {P : Nat → Int} {less : Int} (hP : ∀ i, i < n → P i = found n (D.length : Int) (rkN D (z :: s)) i - less)
    {R : Nat → Pt} (hR : ∀ i, i < n → R ((P i % (n : Int)).toNat) = sd (z :: s) i) {test : Nat → Bool} (ht : ∀ t, t < n → test t = !decide (cr (R (if t = 0 then n - 1 else t - 1)) (R t) = 0)) :
    ∃ ρ0 L, Rk (sid (z :: s)) D L ∧ ((List.range n).filter test).map (qN n P z (sd (z :: s)) R) = rnd (VL z (D.length : Int) L) D.length ρ0 := by
  have hS := h.sds
  have hr := rk_prog h hD
  rw [← hn] at hr
  have hm := hr.pos hS
  have hn0 : 0 < n := by rw [hn]; simp
  have hPl0 := found_pl (n := n) (r := rkN D (z :: s)) hm less
  have hPl : Pl n (D.length : Int) (rkN D (z :: s)) P := fun i j a b hi hj hb => by
    have := hPl0 i j a b hi hj hb
    rw [hP i hi, hP j hj]
    exact this
  obtain ⟨ix, sh, hx⟩ := hPl.at_ hn0
  have hrow : ∀ t : Nat, t < n → R t = sd (z :: s) (ix (t : Int)) := fun t htn => by
    obtain ⟨h1, h2⟩ := hx (t : Int)
    rw [← hR _ h1, h2, Int.add_mul_emod_self_right, Int.emod_eq_of_lt (by omega) (by omega)]
    congr 1
  have hmemL : ∀ i, i < n → (sd (z :: s) i, rkN D (z :: s) i) ∈ (List.range n).map fun i => (sd (z :: s) i, rkN D (z :: s) i) := fun i hi => List.mem_map.mpr ⟨i, List.mem_range.mpr hi, rfl⟩
  have hs : ∀ k : Int, ∃ i a, i < n ∧ rkN D (z :: s) i + a * (D.length : Int) = k := fun k => by
    obtain ⟨p, hp, a, e⟩ := rank_surj hS hr k
    obtain ⟨i, hi, rfl⟩ := List.mem_map.mp hp
    exact ⟨i, a, List.mem_range.mp hi, e⟩
  -- the side at the place ahead
  have hprev : ∀ t : Nat, t < n → R (if t = 0 then n - 1 else t - 1) = sd (z :: s) (ix ((t : Int) - 1)) := fun t htn => by
    by_cases c : t = 0
    · subst c
      rw [if_pos rfl, hrow (n - 1) (by omega)]
      congr 1
      have a1 := hx (((n - 1 : Nat) : Int))
      have a2 := hx (((0 : Nat) : Int) - 1)
      refine (hPl.inj (a := -(sh ((n - 1 : Nat) : Int)) - 1) (b := -(sh (((0 : Nat) : Int) - 1))) a1.1 a2.1 ?_).1
      rw [a1.2, a2.2]
      have : ((n - 1 : Nat) : Int) = (n : Int) - 1 := by omega
      grind
    · rw [if_neg c, hrow (t - 1) (by omega)]
      congr 2
      omega
  have hcross : ∀ t : Nat, t < n → (cr (R (if t = 0 then n - 1 else t - 1)) (R t) = 0 ↔ rkN D (z :: s) (ix t) - sh t * (D.length : Int) = rkN D (z :: s) (ix ((t : Int) - 1)) - sh ((t : Int) - 1) * (D.length : Int)) := fun t htn => by
    rw [hprev t htn, hrow t htn]
    have a1 := hx (t : Int)
    have a2 := hx ((t : Int) - 1)
    constructor
    · intro h0
      rcases rise hPl hn0 hx hs (t : Int) with g | g
      · exact g
      · exact absurd h0 (rank_cross hS hr (hmemL _ a2.1) (hmemL _ a1.1) g)
    · intro e
      have := rank_same hS hr (hmemL _ a1.1) (hmemL _ a2.1) e
      simp only at this
      have n1 := hS.ne _ (sd_mem (l := z :: s) (i := ix (t : Int)) (by rw [← hn]; exact a1.1))
      have n2 := hS.ne _ (sd_mem (l := z :: s) (i := ix ((t : Int) - 1)) (by rw [← hn]; exact a2.1))
      have k1 := (dirOf_alike n2).crs (sd (z :: s) (ix (t : Int)))
      have k2 := (dirOf_alike n1).crs (dirOf (sd (z :: s) (ix ((t : Int) - 1))))
      rw [this] at k2
      have e1 := cr_anti (dirOf (sd (z :: s) (ix ((t : Int) - 1)))) (sd (z :: s) (ix (t : Int)))
      have e2 := cr_self (dirOf (sd (z :: s) (ix ((t : Int) - 1))))
      omega
  obtain ⟨ρ0, hk⟩ := kept hPl hn0 hm hx hs (VL z (D.length : Int) ((List.range n).map fun i => (sd (z :: s) i, rkN D (z :: s) i))) (qN n P z (sd (z :: s)) R) (fun t htn ρ hρ => by
    rw [VL_range]
    have key : ∀ (x0 : Int) (c : Pt → Int), x0 - tsum (fun i => P i / (n : Int) * c (sd (z :: s) i)) (List.range n) + tsum (fun u : Nat => c (R u)) (List.range t) = VV n (D.length : Int) (rkN D (z :: s)) x0 (fun i => c (sd (z :: s) i)) ρ := fun x0 c => by
      have h1 := qq_eq hPl hn0 hx x0 (fun i => c (sd (z :: s) i)) t (by omega)
      unfold QQ at h1
      have h2 : tsum (fun u : Nat => c (R u)) (List.range t) = tsum (fun u : Nat => c (sd (z :: s) (ix (u : Int)))) (List.range t) := tsum_congr fun u hu => by
        rw [hrow u (by have := List.mem_range.mp hu; omega)]
      rw [h2, h1]
      unfold VV
      congr 1
      exact tsum_congr fun i hi => by rw [hρ i (List.mem_range.mp hi)]
    unfold qN
    exact Prod.ext (key z.1 (fun v => v.1)) (key z.2 (fun v => v.2))) test (fun t htn => by
    rw [ht t htn]
    have hc := hcross t htn
    have hr2 := rise hPl hn0 hx hs (t : Int)
    by_cases c : cr (R (if t = 0 then n - 1 else t - 1)) (R t) = 0
    · have := hc.mp c
      simp only [c, decide_true, Bool.not_true, Bool.false_eq_true, false_iff]
      omega
    · have : ¬ _ := fun k => c (hc.mpr k)
      simp only [c, decide_false, Bool.not_false, true_iff]
      omega) (fun t htn => by
    rw [ht t htn]
    have hc := hcross t htn
    by_cases c : cr (R (if t = 0 then n - 1 else t - 1)) (R t) = 0
    · have := hc.mp c
      simp only [c, decide_true, Bool.not_true, true_iff]
      exact this
    · have : ¬ _ := fun k => c (hc.mpr k)
      simp only [c, decide_false, Bool.not_false, Bool.true_eq_false, false_iff]
      exact this)
  refine ⟨ρ0, _, hr, ?_⟩
  rw [hk]
  unfold rnd
  congr 2
theorem field_of_begun {z : Pt} {s D : List Pt} (h : Fen (z :: s)) {L : List (Pt × Int)} (hr : Rk (sid (z :: s)) D L) {t : Int} {B : List Pt} (hB : IsBegun (rnd (VL z (D.length : Int) L) D.length t) B) : FieldOf (z :: s) B := by
  obtain ⟨t0, eB, hmin⟩ := begun_rnd (fun t => VL_per h.sds hr t) hB
  exact ⟨z, s, D, L, t0, rfl, hr.d, hr.s, hr.c, eB, hmin⟩
/-! ## Stretches that meet -/
def mn (a b : Int) : Int := if b < a then b else a
def mx (a b : Int) : Int := if b > a then b else a
def lcross (a b c : Pt) : Int := (b.1 - a.1) * (c.2 - a.2) - (b.2 - a.2) * (c.1 - a.1)
def inBox (a b c : Pt) : Prop := (mn a.1 b.1 ≤ c.1 ∧ c.1 ≤ mx a.1 b.1) ∧ (mn a.2 b.2 ≤ c.2 ∧ c.2 ≤ mx a.2 b.2)
instance (a b c : Pt) : Decidable (inBox a b c) := by unfold inBox; exact inferInstance
def onSt (a b c : Pt) : Prop := lcross a b c = 0 ∧ inBox a b c
instance (a b c : Pt) : Decidable (onSt a b c) := by unfold onSt; exact inferInstance
theorem lcross_cr (a b c : Pt) : lcross a b c = cr (way a b) (way a c) := by unfold lcross cr way; grind
theorem mn_mx (a b c : Int) : (mn a b ≤ c ∧ c ≤ mx a b) ↔ ((a ≤ c ∧ c ≤ b) ∨ (b ≤ c ∧ c ≤ a)) := by
  unfold mn mx
  split <;> split <;> omega
theorem sq_nonneg (z : Int) : 0 ≤ z * z := by
  rcases Int.le_total 0 z with g | g
  · exact Int.mul_nonneg g g
  · exact Int.mul_nonneg_of_nonpos_of_nonpos g g
/-- on the line, and between -/
theorem on_of {a b c : Pt} (hab : a ≠ b) (h0 : lcross a b c = 0) (h1 : 0 ≤ dt (way a b) (way a c)) (h2 : dt (way a b) (way b c) ≤ 0) : onSt a b c := by
  refine ⟨h0, ?_⟩
  have hp := sq_pos (way_ne hab)
  rw [lcross_cr] at h0
  have key : ∀ (w x y q : Int), 0 < q → q * x = w * 0 + w * y → True := fun _ _ _ _ _ _ => trivial
  have e1 : dt (way a b) (way a b) * (c.1 - a.1) = (b.1 - a.1) * dt (way a b) (way a c) := by unfold dt cr way at *; simp only at *; grind
  have e2 : dt (way a b) (way a b) * (c.2 - a.2) = (b.2 - a.2) * dt (way a b) (way a c) := by unfold dt cr way at *; simp only at *; grind
  have e3 : dt (way a b) (way a b) * (c.1 - b.1) = (b.1 - a.1) * dt (way a b) (way b c) := by unfold dt cr way at *; simp only at *; grind
  have e4 : dt (way a b) (way a b) * (c.2 - b.2) = (b.2 - a.2) * dt (way a b) (way b c) := by unfold dt cr way at *; simp only at *; grind
  have one : ∀ {x y w s t : Int}, dt (way a b) (way a b) * x = w * s → dt (way a b) (way a b) * y = w * t → 0 ≤ s → t ≤ 0 → (0 ≤ w → 0 ≤ x ∧ y ≤ 0) ∧ (w ≤ 0 → x ≤ 0 ∧ 0 ≤ y) := fun {x y w s t} hx hy hs ht => by
    generalize dt (way a b) (way a b) = q at *
    constructor
    · intro hw
      have p1 := Int.mul_nonneg hw hs
      have p2 := Int.mul_nonpos_of_nonneg_of_nonpos hw ht
      constructor
      · rcases Int.lt_or_le x 0 with g | g
        · have := Int.mul_neg_of_pos_of_neg hp g; omega
        · exact g
      · rcases Int.lt_or_le 0 y with g | g
        · have := Int.mul_pos hp g; omega
        · exact g
    · intro hw
      have p1 := Int.mul_nonpos_of_nonpos_of_nonneg hw hs
      have p2 := Int.mul_nonneg_of_nonpos_of_nonpos hw ht
      constructor
      · rcases Int.lt_or_le 0 x with g | g
        · have := Int.mul_pos hp g; omega
        · exact g
      · rcases Int.lt_or_le y 0 with g | g
        · have := Int.mul_neg_of_pos_of_neg hp g; omega
        · exact g
  have o1 := one e1 e3 h1 h2
  have o2 := one e2 e4 h1 h2
  refine ⟨(mn_mx _ _ _).mpr ?_, (mn_mx _ _ _).mpr ?_⟩
  · rcases Int.le_total 0 (b.1 - a.1) with g | g
    · have := o1.1 g; omega
    · have := o1.2 g; omega
  · rcases Int.le_total 0 (b.2 - a.2) with g | g
    · have := o2.1 g; omega
    · have := o2.2 g; omega
theorem Sep.swap1 {a b c d : Pt} (h : Sep a b c d) : Sep b a c d := by
  obtain ⟨f, h1, h2, h3, h4⟩ := h
  exact ⟨f, h3, h4, h1, h2⟩
theorem Sep.swap2 {a b c d : Pt} (h : Sep a b c d) : Sep a b d c := by
  obtain ⟨f, h1, h2, h3, h4⟩ := h
  exact ⟨f, h2, h1, h4, h3⟩
/-- c beyond b on the line, d off it -/
theorem sep_beyond {a b c d : Pt} (hab : a ≠ b) (h0 : lcross a b c = 0) (hd : lcross a b d ≠ 0) (h1 : 0 < dt (way a b) (way b c)) : Sep a b c d := by
  have hp := sq_pos (way_ne hab)
  rw [lcross_cr] at h0 hd
  let mu : Int := (1 + (dt (way a b) (way b d)).natAbs) * (if 0 < cr (way a b) (way a d) then 1 else -1)
  have hf : ∀ x : Pt, dt ((way a b).1 + mu * -(way a b).2, (way a b).2 + mu * (way a b).1) x - dt ((way a b).1 + mu * -(way a b).2, (way a b).2 + mu * (way a b).1) b = dt (way a b) (way b x) + mu * cr (way a b) (way a x) := fun x => by
    generalize mu = m
    unfold dt cr way
    simp only
    grind
  refine ⟨((way a b).1 + mu * -(way a b).2, (way a b).2 + mu * (way a b).1), ?_⟩
  have fa := hf a
  have fc := hf c
  have fd := hf d
  have e1 : cr (way a b) (way a a) = 0 := by unfold cr way; simp
  have e2 : dt (way a b) (way b a) = - dt (way a b) (way a b) := by unfold dt way; simp only; grind
  rw [e1, e2, Int.mul_zero] at fa
  rw [h0, Int.mul_zero] at fc
  have hmu : 0 < dt (way a b) (way b d) + mu * cr (way a b) (way a d) := by
    show 0 < dt (way a b) (way b d) + (1 + ((dt (way a b) (way b d)).natAbs : Int)) * (if 0 < cr (way a b) (way a d) then 1 else -1) * cr (way a b) (way a d)
    generalize dt (way a b) (way b d) = X
    generalize cr (way a b) (way a d) = Y at *
    have h3 : 0 ≤ (1 + (X.natAbs : Int)) * ((if 0 < Y then 1 else -1) * Y - 1) := by
      refine Int.mul_nonneg (by omega) ?_
      split <;> omega
    have h4 : (1 + (X.natAbs : Int)) * (if 0 < Y then 1 else -1) * Y = (1 + (X.natAbs : Int)) * ((if 0 < Y then 1 else -1) * Y - 1) + (1 + (X.natAbs : Int)) := by grind
    omega
  rw [← fd] at hmu
  refine ⟨?_, ?_, ?_, ?_⟩ <;> omega
theorem beyond {a b c : Pt} (hab : a ≠ b) (h0 : lcross a b c = 0) (hn : ¬ onSt a b c) : dt (way a b) (way a c) < 0 ∨ 0 < dt (way a b) (way b c) := by
  apply Classical.byContradiction
  intro k
  exact hn (on_of hab h0 (by omega) (by omega))
theorem sep1 {a b c d : Pt} (hab : a ≠ b) (h0 : lcross a b c = 0) (hd : lcross a b d ≠ 0) (hn : ¬ onSt a b c) : Sep a b c d := by
  rcases beyond hab h0 hn with g | g
  · refine Sep.swap1 (sep_beyond (Ne.symm hab) ?_ ?_ ?_)
    · unfold lcross at *; grind
    · unfold lcross at *; intro k; apply hd; grind
    · have : dt (way b a) (way a c) = - dt (way a b) (way a c) := by unfold dt way; simp only; grind
      omega
  · exact sep_beyond hab h0 hd g
def lMeet (a b c d : Pt) : Bool :=
  if decide (onSt a b c) || (decide (onSt a b d) || (decide (onSt c d a) || decide (onSt c d b))) then true
  else (decide (lcross a b c > 0) != decide (lcross a b d > 0)) && ((decide (lcross c d a > 0) != decide (lcross c d b > 0)) && !(decide (lcross a b c = 0) || (decide (lcross a b d = 0) || (decide (lcross c d a = 0) || decide (lcross c d b = 0)))))
theorem sep_same {a b c d : Pt} (h : (0 < lcross a b c ∧ 0 < lcross a b d) ∨ (lcross a b c < 0 ∧ lcross a b d < 0)) : Sep a b c d := by
  have hf : ∀ x : Pt, dt (-(way a b).2, (way a b).1) x - dt (-(way a b).2, (way a b).1) a = lcross a b x := fun x => by unfold dt way lcross; simp only; grind
  have hb : dt (-(way a b).2, (way a b).1) b = dt (-(way a b).2, (way a b).1) a := by unfold dt way; simp only; grind
  have c1 := hf c
  have d1 := hf d
  rcases h with h | h
  · refine ⟨(-(way a b).2, (way a b).1), ?_, ?_, ?_, ?_⟩ <;> omega
  · refine ⟨negP (-(way a b).2, (way a b).1), ?_, ?_, ?_, ?_⟩ <;> rw [dt_neg, dt_neg] <;> omega
theorem sep_of_not_meet {a b c d : Pt} (hab : a ≠ b) (hcd : c ≠ d) (h : lMeet a b c d = false) : Sep a b c d := by
  unfold lMeet at h
  split at h
  · cases h
  · rename_i hn
    simp only [Bool.or_eq_true, decide_eq_true_eq, not_or] at hn
    obtain ⟨n1, n2, n3, n4⟩ := hn
    by_cases a0 : lcross a b c = 0
    · by_cases b0 : lcross a b d = 0
      · -- all on one line
        have w0 := sq_pos (way_ne hab)
        rcases beyond hab a0 n1 with g | g <;> rcases beyond hab b0 n2 with k | k
        · refine ⟨negP (way a b), ?_, ?_, ?_, ?_⟩ <;> rw [dt_neg, dt_neg] <;> (rw [dt_way] at g k w0; omega)
        · exfalso
          -- c ahead of a, d behind b: then a lies between
          refine n3 (on_of hcd ?_ ?_ ?_)
          · rw [lcross_cr] at *
            have i1 : (way a b).1 * cr (way c d) (way c a) = 0 := by unfold cr way at *; simp only at *; grind
            have i2 : (way a b).2 * cr (way c d) (way c a) = 0 := by unfold cr way at *; simp only at *; grind
            rcases Int.mul_eq_zero.mp i1 with z | z
            · rcases Int.mul_eq_zero.mp i2 with y | y
              · exact absurd (Prod.ext z y) (way_ne hab)
              · exact y
            · exact z
          · have e : dt (way a b) (way a b) * dt (way c d) (way c a) = dt (way a b) (way c d) * dt (way a b) (way c a) := by rw [lcross_cr] at *; unfold dt cr way at *; simp only at *; grind
            have p1 : 0 < dt (way a b) (way c d) := by rw [dt_way] at *; omega
            have p2 : 0 < dt (way a b) (way c a) := by rw [dt_way] at *; omega
            have := Int.mul_pos p1 p2
            rw [← e] at this
            exact Int.le_of_lt (pos_of_mul w0 this)
          · have e : dt (way a b) (way a b) * dt (way c d) (way d a) = dt (way a b) (way c d) * dt (way a b) (way d a) := by rw [lcross_cr] at *; unfold dt cr way at *; simp only at *; grind
            have p1 : 0 < dt (way a b) (way c d) := by rw [dt_way] at *; omega
            have p2 : dt (way a b) (way d a) < 0 := by rw [dt_way] at *; omega
            have := Int.mul_neg_of_pos_of_neg p1 p2
            rcases Int.lt_or_le 0 (dt (way c d) (way d a)) with y | y
            · have := Int.mul_pos w0 y; omega
            · exact y
        · exfalso
          refine n3 (on_of hcd ?_ ?_ ?_)
          · rw [lcross_cr] at *
            have i1 : (way a b).1 * cr (way c d) (way c a) = 0 := by unfold cr way at *; simp only at *; grind
            have i2 : (way a b).2 * cr (way c d) (way c a) = 0 := by unfold cr way at *; simp only at *; grind
            rcases Int.mul_eq_zero.mp i1 with z | z
            · rcases Int.mul_eq_zero.mp i2 with y | y
              · exact absurd (Prod.ext z y) (way_ne hab)
              · exact y
            · exact z
          · have e : dt (way a b) (way a b) * dt (way c d) (way c a) = dt (way a b) (way c d) * dt (way a b) (way c a) := by rw [lcross_cr] at *; unfold dt cr way at *; simp only at *; grind
            have p1 : dt (way a b) (way c d) < 0 := by rw [dt_way] at *; omega
            have p2 : dt (way a b) (way c a) < 0 := by rw [dt_way] at *; omega
            have := Int.mul_pos_of_neg_of_neg p1 p2
            rw [← e] at this
            exact Int.le_of_lt (pos_of_mul w0 this)
          · have e : dt (way a b) (way a b) * dt (way c d) (way d a) = dt (way a b) (way c d) * dt (way a b) (way d a) := by rw [lcross_cr] at *; unfold dt cr way at *; simp only at *; grind
            have p1 : dt (way a b) (way c d) < 0 := by rw [dt_way] at *; omega
            have p2 : 0 < dt (way a b) (way d a) := by rw [dt_way] at *; omega
            have := Int.mul_neg_of_neg_of_pos p1 p2
            rcases Int.lt_or_le 0 (dt (way c d) (way d a)) with y | y
            · have := Int.mul_pos w0 y; omega
            · exact y
        · refine ⟨way a b, ?_, ?_, ?_, ?_⟩ <;> (rw [dt_way] at g k w0; omega)
      · exact sep1 hab a0 b0 n1
    · by_cases b0 : lcross a b d = 0
      · exact (sep1 hab b0 a0 n2).swap2
      · by_cases c0 : lcross c d a = 0
        · by_cases d0 : lcross c d b = 0
          · exfalso
            -- a and b on the line of c d: then c is on that of a b
            refine a0 ?_
            rw [lcross_cr] at *
            have i1 : (way c d).1 * cr (way a b) (way a c) = 0 := by unfold cr way at *; simp only at *; grind
            have i2 : (way c d).2 * cr (way a b) (way a c) = 0 := by unfold cr way at *; simp only at *; grind
            rcases Int.mul_eq_zero.mp i1 with z | z
            · rcases Int.mul_eq_zero.mp i2 with y | y
              · exact absurd (Prod.ext z y) (way_ne hcd)
              · exact y
            · exact z
          · exact (sep1 hcd c0 d0 n3).symm
        · by_cases d0 : lcross c d b = 0
          · exact (sep1 hcd d0 c0 n4).swap2.symm
          · by_cases s1 : decide (lcross a b c > 0) = decide (lcross a b d > 0)
            · refine sep_same ?_
              by_cases z : lcross a b c > 0
              · rw [decide_eq_true z] at s1
                exact .inl ⟨z, of_decide_eq_true s1.symm⟩
              · rw [decide_eq_false z] at s1
                have := of_decide_eq_false s1.symm
                right; omega
            · by_cases s2 : decide (lcross c d a > 0) = decide (lcross c d b > 0)
              · refine (sep_same ?_).symm
                by_cases z : lcross c d a > 0
                · rw [decide_eq_true z] at s2
                  exact .inl ⟨z, of_decide_eq_true s2.symm⟩
                · rw [decide_eq_false z] at s2
                  have := of_decide_eq_false s2.symm
                  right; omega
              · exfalso
                simp [a0, b0, c0, d0] at h
                by_cases z1 : lcross a b c > 0 <;> by_cases z2 : lcross a b d > 0 <;> by_cases z3 : lcross c d a > 0 <;> by_cases z4 : lcross c d b > 0 <;> simp [z1, z2, z3, z4] at h s1 s2 <;> omega
/-! ### the program's own test -/
theorem on_not {a b c : Pt} (h : onSt a b c) (f : Pt) : ¬ (dt f a < dt f c ∧ dt f b < dt f c) := by
  obtain ⟨h0, h1, h2⟩ := h
  rw [mn_mx] at h1 h2
  rintro ⟨k1, k2⟩
  by_cases hab : a = b
  · subst hab
    have : c = a := Prod.ext (by omega) (by omega)
    rw [this] at k1
    omega
  · have hp := sq_pos (way_ne hab)
    rw [lcross_cr] at h0
    have box : ∀ {p q r : Int}, ((p ≤ r ∧ r ≤ q) ∨ (q ≤ r ∧ r ≤ p)) → 0 ≤ (q - p) * (r - p) ∧ (q - p) * (r - q) ≤ 0 := fun {p q r} h => by
      rcases h with h | h
      · exact ⟨Int.mul_nonneg (by omega) (by omega), Int.mul_nonpos_of_nonneg_of_nonpos (by omega) (by omega)⟩
      · exact ⟨Int.mul_nonneg_of_nonpos_of_nonpos (by omega) (by omega), Int.mul_nonpos_of_nonpos_of_nonneg (by omega) (by omega)⟩
    have b1 := box h1
    have b2 := box h2
    have t0 : 0 ≤ dt (way a b) (way a c) := by unfold dt way; simp only; omega
    have t1 : dt (way a b) (way b c) ≤ 0 := by unfold dt way; simp only; omega
    have e1 : dt (way a b) (way a b) * (dt f c - dt f a) = dt f (way a b) * dt (way a b) (way a c) := by unfold dt cr way at *; simp only at *; grind
    have e2 : dt (way a b) (way a b) * (dt f c - dt f b) = dt f (way a b) * dt (way a b) (way b c) := by unfold dt cr way at *; simp only at *; grind
    rcases Int.le_total 0 (dt f (way a b)) with g | g
    · have := Int.mul_nonpos_of_nonneg_of_nonpos g t1
      have := Int.mul_pos hp (show 0 < dt f c - dt f b by omega)
      omega
    · have := Int.mul_nonpos_of_nonpos_of_nonneg g t0
      have := Int.mul_pos hp (show 0 < dt f c - dt f a by omega)
      omega
theorem on_not_sep {a b c d : Pt} (hs : Sep a b c d) : ¬ onSt a b c ∧ ¬ onSt a b d ∧ ¬ onSt c d a ∧ ¬ onSt c d b := by
  obtain ⟨f, h1, h2, h3, h4⟩ := hs
  refine ⟨fun h => on_not h f ⟨h1, h3⟩, fun h => on_not h f ⟨h2, h4⟩, fun h => on_not h (negP f) ?_, fun h => on_not h (negP f) ?_⟩ <;> rw [dt_neg, dt_neg, dt_neg] <;> omega
theorem no_cross {a b c d : Pt} (hs : Sep a b c d) : ¬ (((0 < lcross a b c ∧ lcross a b d < 0) ∨ (lcross a b c < 0 ∧ 0 < lcross a b d)) ∧ ((0 < lcross c d a ∧ lcross c d b < 0) ∨ (lcross c d a < 0 ∧ 0 < lcross c d b))) := by
  obtain ⟨f, h1, h2, h3, h4⟩ := hs
  rintro ⟨k1, k2⟩
  have e0 : lcross a b c - lcross a b d = -(lcross c d a - lcross c d b) := by unfold lcross; grind
  have e1 : lcross a b c * dt f d - lcross a b d * dt f c + lcross c d a * dt f b - lcross c d b * dt f a = 0 := by unfold lcross dt; grind
  generalize lcross a b c = A at *
  generalize lcross a b d = B at *
  generalize lcross c d a = G at *
  generalize lcross c d b = H at *
  generalize dt f a = fa at *
  generalize dt f b = fb at *
  generalize dt f c = fc at *
  generalize dt f d = fd at *
  rcases k1 with ⟨k1, k3⟩ | ⟨k1, k3⟩
  · rcases k2 with ⟨k2, k4⟩ | ⟨k2, k4⟩
    · omega
    · -- A > 0 > B, G < 0 < H
      have p1 := Int.mul_pos k1 (show 0 < fd - fa by omega)
      have p2 := Int.mul_pos (show 0 < -B by omega) (show 0 < fc - fa by omega)
      have p3 := Int.mul_pos k1 (show 0 < fd - fb by omega)
      have p4 := Int.mul_pos (show 0 < -B by omega) (show 0 < fc - fb by omega)
      -- the greater one of fa, fb
      have s1 : A * (fd - fa) + -B * (fc - fa) = -G * (fb - fa) := by grind
      have s2 : A * (fd - fb) + -B * (fc - fb) = H * (fa - fb) := by grind
      rcases Int.le_total fa fb with g | g
      · have := Int.mul_nonpos_of_nonneg_of_nonpos (Int.le_of_lt k4) (show fa - fb ≤ 0 by omega)
        omega
      · have := Int.mul_nonpos_of_nonneg_of_nonpos (show 0 ≤ -G by omega) (show fb - fa ≤ 0 by omega)
        omega
  · rcases k2 with ⟨k2, k4⟩ | ⟨k2, k4⟩
    · have p1 := Int.mul_pos (show 0 < -A by omega) (show 0 < fd - fa by omega)
      have p2 := Int.mul_pos k3 (show 0 < fc - fa by omega)
      have p3 := Int.mul_pos (show 0 < -A by omega) (show 0 < fd - fb by omega)
      have p4 := Int.mul_pos k3 (show 0 < fc - fb by omega)
      have s1 : -A * (fd - fa) + B * (fc - fa) = G * (fb - fa) := by grind
      have s2 : -A * (fd - fb) + B * (fc - fb) = -H * (fa - fb) := by grind
      rcases Int.le_total fa fb with g | g
      · have := Int.mul_nonpos_of_nonneg_of_nonpos (show 0 ≤ -H by omega) (show fa - fb ≤ 0 by omega)
        omega
      · have := Int.mul_nonpos_of_nonneg_of_nonpos (show 0 ≤ G by omega) (show fb - fa ≤ 0 by omega)
        omega
    · omega
/-! ### what is clear by the law's own reckoning -/
def chk (e m i : Pt) : Bool := decide (lcross e m i ≠ 0) || decide (dt (way e m) (way e i) < 0)
def lClear (a b c d : Pt) : Bool := if a = c then chk a b d else if a = d then chk a b c else if b = c then chk b a d else if b = d then chk b a c else !lMeet a b c d
theorem chk_goes {e m i : Pt} (h : chk e m i = true) : goesOn (way m e) (way e i) := by
  unfold chk at h
  simp only [Bool.or_eq_true, decide_eq_true_eq] at h
  rw [lcross_cr] at h
  have e1 : cr (way m e) (way e i) = - cr (way e m) (way e i) := by unfold cr way; simp only; grind
  have e2 : dt (way m e) (way e i) = - dt (way e m) (way e i) := by unfold dt way; simp only; grind
  unfold goesOn
  rw [e1, e2]
  omega
theorem chk_self {e m : Pt} : chk e m m = false := by
  unfold chk
  have h1 : lcross e m m = 0 := by unfold lcross; grind
  have h2 : 0 ≤ dt (way e m) (way e m) := by
    unfold dt
    have := sq_nonneg (way e m).1
    have := sq_nonneg (way e m).2
    omega
  rw [h1]
  simp
  omega
theorem ok_of_clear {a b c d : Pt} (hab : a ≠ b) (hcd : c ≠ d) (hac : a ≠ c) (hbd : b ≠ d) (h : lClear a b c d = true) : Ok (a, b) (c, d) := by
  unfold lClear at h
  rw [if_neg hac] at h
  by_cases c1 : a = d
  · rw [if_pos c1] at h
    refine ⟨fun k => ?_, fun _ => ?_, fun _ k => absurd c1.symm k⟩
    · exfalso
      have : b = c := k
      rw [← this, chk_self] at h
      cases h
    · have := chk_goes h
      show goesOn (way c d) (way a b)
      rw [← c1]
      -- from c to a, then to b
      unfold goesOn cr dt way at *
      simp only at *
      unfold chk lcross dt way at h
      simp only [Bool.or_eq_true, decide_eq_true_eq] at h
      grind
  · rw [if_neg c1] at h
    by_cases c2 : b = c
    · rw [if_pos c2] at h
      refine ⟨fun _ => ?_, fun k => absurd k.symm c1, fun k => absurd c2 k⟩
      have := chk_goes h
      show goesOn (way a b) (way c d)
      rw [← c2]
      exact this
    · rw [if_neg c2, if_neg hbd] at h
      refine ⟨fun k => absurd k c2, fun k => absurd k.symm c1, fun _ _ => sep_of_not_meet hab hcd ?_⟩
      simpa using h
/-- one more corner -/
theorem Simple.put {r0 r1 P : Pt} {t : List Pt} (h : Simple (r0 :: r1 :: t)) (hP : P ∉ r0 :: r1 :: t) (h0 : lClear r0 P P r1 = true) (h1 : ∀ e ∈ pathE (r1 :: t ++ [r0]), lClear r0 P e.1 e.2 = true) (h2 : ∀ e ∈ pathE (r1 :: t ++ [r0]), lClear P r1 e.1 e.2 = true) : Simple (r0 :: P :: r1 :: t) := by
  have hp : ((r0, r1) :: pathE (r1 :: t ++ [r0])).Pairwise Ok := h.ok
  obtain ⟨hq, hp3⟩ := List.pairwise_cons.mp hp
  have hn := List.nodup_cons.mp h.nd
  have hn2 := List.nodup_cons.mp hn.2
  have p0 : r0 ≠ P := fun e => hP (e ▸ List.mem_cons_self ..)
  have p1 : P ≠ r1 := fun e => hP (e ▸ List.mem_cons_of_mem _ (List.mem_cons_self ..))
  refine ⟨?_, by have := h.len; simp only [List.length_cons] at *; omega, ?_⟩
  · refine List.nodup_cons.mpr ⟨fun g => ?_, List.nodup_cons.mpr ⟨fun g => hP (List.mem_cons_of_mem _ g), hn.2⟩⟩
    rcases List.mem_cons.mp g with g | g
    · exact p0 g
    · exact hn.1 g
  · show ((r0, P) :: (P, r1) :: pathE (r1 :: t ++ [r0])).Pairwise Ok
    have sub1 : ∀ e ∈ pathE (r1 :: t ++ [r0]), e.1 ∈ r1 :: t := fun e he => pathE_mem_fst he
    have sub2 : ∀ e ∈ pathE (r1 :: t ++ [r0]), e.2 ∈ t ++ [r0] := fun e he => pathE_mem_snd he
    have hlen : 2 ≤ (r0 :: r1 :: t).length := by simp
    have hne : ∀ e ∈ pathE (r1 :: t ++ [r0]), e.1 ≠ e.2 := fun e he => cyc_ne h.nd hlen (show e ∈ cyc (r0 :: r1 :: t) from List.mem_cons_of_mem _ he)
    have m1 : ∀ e ∈ pathE (r1 :: t ++ [r0]), e.1 ≠ P ∧ e.1 ≠ r0 := fun e he => ⟨fun g => hP (g ▸ List.mem_cons_of_mem _ (sub1 e he)), fun g => hn.1 (g ▸ sub1 e he)⟩
    have m2 : ∀ e ∈ pathE (r1 :: t ++ [r0]), e.2 ≠ P ∧ e.2 ≠ r1 := fun e he => by
      rcases List.mem_append.mp (sub2 e he) with g | g
      · exact ⟨fun k => hP (k ▸ List.mem_cons_of_mem _ (List.mem_cons_of_mem _ g)), fun k => hn2.1 (k ▸ g)⟩
      · rw [List.mem_singleton.mp g]
        exact ⟨p0, fun k => hn.1 (k ▸ List.mem_cons_self ..)⟩
    refine List.pairwise_cons.mpr ⟨fun e he => ?_, List.pairwise_cons.mpr ⟨fun e he => ?_, hp3⟩⟩
    · rcases List.mem_cons.mp he with k | k
      · rw [k]
        exact ok_of_clear p0 p1 p0 p1 h0
      · exact ok_of_clear p0 (hne e k) (Ne.symm (m1 e k).2) (Ne.symm (m2 e k).1) (h1 e k)
    · exact ok_of_clear p1 (hne e he) (Ne.symm (m1 e he).1) (Ne.symm (m2 e he).2) (h2 e he)
/-! ### written fences -/
def okB (e f : Pt × Pt) : Bool := decide (e.1 ≠ e.2) && decide (f.1 ≠ f.2) && decide (e.1 ≠ f.1) && decide (e.2 ≠ f.2) && lClear e.1 e.2 f.1 f.2
def pairsB (R : Pt × Pt → Pt × Pt → Bool) : List (Pt × Pt) → Bool
  | [] => true
  | e :: t => t.all (R e) && pairsB R t
theorem pairsB_ok : ∀ {L : List (Pt × Pt)}, pairsB okB L = true → L.Pairwise Ok
  | [], _ => List.Pairwise.nil
  | e :: t, h => by
    unfold pairsB at h
    simp only [Bool.and_eq_true, List.all_eq_true] at h
    refine List.pairwise_cons.mpr ⟨fun f hf => ?_, pairsB_ok h.2⟩
    have := h.1 f hf
    unfold okB at this
    simp only [Bool.and_eq_true, decide_eq_true_eq] at this
    exact ok_of_clear this.1.1.1.1 this.1.1.1.2 this.1.1.2 this.1.2 this.2
def nodupB : List Pt → Bool
  | [] => true
  | a :: t => t.all (fun b => decide (a ≠ b)) && nodupB t
theorem nodupB_ok : ∀ {l : List Pt}, nodupB l = true → l.Nodup
  | [], _ => List.Pairwise.nil
  | a :: t, h => by
    unfold nodupB at h
    simp only [Bool.and_eq_true, List.all_eq_true, decide_eq_true_eq] at h
    exact List.nodup_cons.mpr ⟨fun k => h.1 a k rfl, nodupB_ok h.2⟩
def fenB (l : List Pt) : Bool := nodupB l && Nat.ble 3 l.length && pairsB okB (cyc l) && decide (0 < areaL l)
theorem fenB_ok {l : List Pt} (h : fenB l = true) : Fen l := by
  unfold fenB at h
  simp only [Bool.and_eq_true, decide_eq_true_eq] at h
  exact ⟨⟨nodupB_ok h.1.1.1, Nat.le_of_ble_eq_true h.1.1.2, pairsB_ok h.1.2⟩, h.2⟩
/-! ## What is asked of corners; the written shapes -/
theorem pathE_zip : ∀ (x : Pt) (t : List Pt) (z : Pt), pathE (x :: t ++ [z]) = (x :: t).zip (t ++ [z])
  | x, [], z => rfl
  | x, y :: t, z => congrArg (List.cons (x, y)) (pathE_zip y t z)
theorem cyc_zip (l : List Pt) : cyc l = l.zip (l.drop 1 ++ l.take 1) := by
  cases l with
  | nil => rfl
  | cons x t => exact pathE_zip x t x
theorem cyc_get {l : List Pt} {i : Nat} (hi : i < l.length) : (cyc l)[i]? = some (l.getD i (0, 0), l.getD (if i + 1 = l.length then 0 else i + 1) (0, 0)) := by
  rw [cyc_zip, List.getElem?_zip_eq_some]
  constructor
  · rw [List.getD_eq_getElem?_getD, List.getElem?_eq_getElem hi]; rfl
  · by_cases c : i + 1 = l.length
    · rw [if_pos c, List.getElem?_append_right (by simp; omega)]
      have : i - (l.drop 1).length = 0 := by simp; omega
      rw [this]
      cases l with
      | nil => simp at hi
      | cons x t => rfl
    · rw [if_neg c, List.getElem?_append_left (by simp; omega), List.getElem?_drop, Nat.add_comm 1 i, List.getElem?_eq_getElem (show i + 1 < l.length by omega)]
      show some _ = some (l.getD (i + 1) (0, 0))
      rw [List.getD_eq_getElem?_getD, List.getElem?_eq_getElem (show i + 1 < l.length by omega)]
      rfl
theorem getD_inj {l : List Pt} (hn : l.Nodup) {i j : Nat} (hi : i < l.length) (hj : j < l.length) (e : l.getD i (0, 0) = l.getD j (0, 0)) : i = j := by
  rw [List.getD_eq_getElem?_getD, List.getD_eq_getElem?_getD, List.getElem?_eq_getElem hi, List.getElem?_eq_getElem hj] at e
  exact (List.getElem_inj hn).mp e
theorem apart {l : List Pt} (h : Fen l) {i j : Nat} (hij : i + 2 ≤ j) (hj : j < l.length) (h0 : i = 0 → j + 1 < l.length) : Sep (l.getD i (0, 0)) (l.getD (i + 1) (0, 0)) (l.getD j (0, 0)) (l.getD (if j + 1 = l.length then 0 else j + 1) (0, 0)) := by
  have hi : i < l.length := by omega
  have g1 := cyc_get hi
  have g2 := cyc_get hj
  rw [if_neg (by omega)] at g1
  obtain ⟨l1, e1⟩ := List.getElem?_eq_some_iff.mp g1
  obtain ⟨l2, e2⟩ := List.getElem?_eq_some_iff.mp g2
  have ho := List.pairwise_iff_getElem.mp h.s.ok i j l1 l2 (by omega)
  rw [e1, e2] at ho
  refine ho.2.2 (fun k => ?_) (fun k => ?_)
  · have := getD_inj h.s.nd (by omega) hj k
    omega
  · have := getD_inj h.s.nd (by split <;> omega) hi k
    split at this <;> omega
/-! ### spirals -/
def ways4 (k : Int) : Pt := if k % 4 = 0 then (1, 0) else if k % 4 = 1 then (0, 1) else if k % 4 = 2 then (-1, 0) else (0, -1)
def walkL : Pt → List (Int × Int) → List Pt
  | _, [] => []
  | h, (w, g) :: t => h :: walkL (h.1 + g * (ways4 w).1, h.2 + g * (ways4 w).2) t
def stepsL (r : Nat) : List (Int × Int) :=
  ((List.range (r + 1)).map fun i : Nat => ((i : Int), if i = 0 then (r : Int) else (r : Int) - ((i : Int) - 1))) ++ (((List.range r).map fun i : Nat => ((r : Int) - 1 - (i : Int) + 2, mx 1 (i : Int))) ++ [(3, 1)])
def curlL (r : Nat) : List Pt := walkL (0, 0) (stepsL r)
theorem curl_fen : ∀ r, 3 ≤ r → r ≤ 6 → Fen (curlL r) := by
  have h : ∀ r ∈ [3, 4, 5, 6], fenB (curlL r) = true := by decide +kernel
  intro r h1 h2
  refine fenB_ok (h r ?_)
  have : r = 3 ∨ r = 4 ∨ r = 5 ∨ r = 6 := by omega
  simp; omega
/-! ### combs -/
def toothL (k hi de e : Int) : List Pt := [(3 * k, 3 + hi), (3 * k - 1, 3 + hi), (3 * k - 1 - e, 1 + de)]
def teethL : List (Int × Int × Int × Int) → List Pt
  | [] => []
  | (k, a, b, c) :: t => toothL k a b c ++ teethL t
def combL (n : Int) (t : List (Int × Int × Int × Int)) : List Pt := (0, 0) :: (3 * n, 0) :: (teethL t ++ [(0, 3)])
def bits3 : List (Int × Int × Int) := [(0, 0, 0), (0, 0, 1), (0, 1, 0), (0, 1, 1), (1, 0, 0), (1, 0, 1), (1, 1, 0), (1, 1, 1)]
def dr3 (x : Int × Int × Int) : Prop := (0 ≤ x.1 ∧ x.1 < 2) ∧ (0 ≤ x.2.1 ∧ x.2.1 < 2) ∧ (0 ≤ x.2.2 ∧ x.2.2 < 2)
theorem dr3_mem {x : Int × Int × Int} (h : dr3 x) : x ∈ bits3 := by
  obtain ⟨a, b, c⟩ := x
  obtain ⟨h1, h2, h3⟩ := h
  simp only at h1 h2 h3
  have ha : a = 0 ∨ a = 1 := by omega
  have hb : b = 0 ∨ b = 1 := by omega
  have hc : c = 0 ∨ c = 1 := by omega
  rcases ha with rfl | rfl <;> rcases hb with rfl | rfl <;> rcases hc with rfl | rfl <;> decide
theorem comb1 {x : Int × Int × Int} (hx : dr3 x) : Fen (combL 1 [(1, x)]) := by
  have h : ∀ x ∈ bits3, fenB (combL 1 [(1, x)]) = true := by decide +kernel
  exact fenB_ok (h x (dr3_mem hx))
theorem comb2 {x y : Int × Int × Int} (hx : dr3 x) (hy : dr3 y) : Fen (combL 2 [(2, x), (1, y)]) := by
  have h : ∀ x ∈ bits3, ∀ y ∈ bits3, fenB (combL 2 [(2, x), (1, y)]) = true := by decide +kernel
  exact fenB_ok (h x (dr3_mem hx) y (dr3_mem hy))
theorem comb3 {x y z : Int × Int × Int} (hx : dr3 x) (hy : dr3 y) (hz : dr3 z) : Fen (combL 3 [(3, x), (2, y), (1, z)]) := by
  have h : ∀ x ∈ bits3, ∀ y ∈ bits3, ∀ z ∈ bits3, fenB (combL 3 [(3, x), (2, y), (1, z)]) = true := by decide +kernel
  exact fenB_ok (h x (dr3_mem hx) y (dr3_mem hy) z (dr3_mem hz))
/-! ### bounds -/
def Bd (b : Int) (l : List Pt) : Prop := ∀ v ∈ l, (-b ≤ v.1 ∧ v.1 ≤ b) ∧ (-b ≤ v.2 ∧ v.2 ≤ b)
/-! ### a step of growing -/
def triB : List (List Pt) := [[(0, 0), (6, 0), (1, 5)], [(0, 0), (7, 2), (2, 6)], [(1, 0), (5, 1), (0, 4)]]
theorem tri_fen : ∀ l ∈ triB, Fen l ∧ l.length = 3 ∧ Bd 8 l := by
  have h : ∀ l ∈ triB, fenB l = true ∧ l.length = 3 ∧ (l.all fun v => decide ((-8 ≤ v.1 ∧ v.1 ≤ 8) ∧ (-8 ≤ v.2 ∧ v.2 ≤ 8))) = true := by decide +kernel
  intro l hl
  obtain ⟨h1, h2, h3⟩ := h l hl
  exact ⟨fenB_ok h1, h2, fun v hv => of_decide_eq_true (List.all_eq_true.mp h3 v hv)⟩
/-- the corner P put behind corner at of l, as the law does -/
theorem grown_put {l : List Pt} (h : Simple l) {at_ : Nat} (ha : at_ < l.length) {P r0 r1 : Pt} {t : List Pt} (hr : l.drop at_ ++ l.take at_ = r0 :: r1 :: t) (hP : P ∉ l) (h0 : lClear r0 P P r1 = true)
    (h1 : ∀ e ∈ pathE (r1 :: t ++ [r0]), lClear r0 P e.1 e.2 = true) (h2 : ∀ e ∈ pathE (r1 :: t ++ [r0]), lClear P r1 e.1 e.2 = true) : Simple (l.take (at_ + 1) ++ P :: l.drop (at_ + 1)) := by
  have hs : Simple (r0 :: r1 :: t) := by
    rw [← hr]
    have : Simple (l.take at_ ++ l.drop at_) := by rw [List.take_append_drop]; exact h
    exact this.rot
  have hP2 : P ∉ r0 :: r1 :: t := by
    rw [← hr]
    intro k
    rcases List.mem_append.mp k with g | g
    · exact hP (List.mem_of_mem_drop g)
    · exact hP (List.mem_of_mem_take g)
  have h3 := hs.put hP2 h0 h1 h2
  -- turned back
  have e1 : l.drop at_ = l[at_] :: l.drop (at_ + 1) := List.drop_eq_getElem_cons ha
  have e2 : l.take (at_ + 1) = l.take at_ ++ [l[at_]] := by rw [List.take_succ_eq_append_getElem ha]
  rw [e1] at hr
  have e3 : l[at_] = r0 ∧ l.drop (at_ + 1) ++ l.take at_ = r1 :: t := List.cons.inj hr
  have h4 : Simple ([r0, P] ++ l.drop (at_ + 1) ++ l.take at_) := by
    rw [List.append_assoc, e3.2]
    exact h3
  have h5 := h4.rot
  rw [e2, e3.1]
  have e4 : l.take at_ ++ [r0] ++ P :: l.drop (at_ + 1) = l.take at_ ++ ([r0, P] ++ l.drop (at_ + 1)) := by simp
  rw [e4]
  exact h5
end Bay
namespace Bay
open PySem PySem.Spec PyProof.Rows L2
open C8 (Cal pe_c Mak pe_mk)
/-! ### the text by places -/
def top (i : Nat) : Stmt := PySem.Challenge.pw_baysout_k40_whole_fields_of_changed_fenc.main.body.getD i (.Pass ⟨0, 0, 0, 0⟩)
abbrev s_is_integer : Stmt := top 7
abbrev s_is_point : Stmt := top 9
abbrev s_need_point : Stmt := top 10
abbrev s_way : Stmt := top 12
abbrev s_cross : Stmt := top 13
abbrev s_sign_of : Stmt := top 14
abbrev s_turn_of : Stmt := top 15
abbrev s_is_on : Stmt := top 16
abbrev s_are_apart : Stmt := top 17
abbrev s_meet_in : Stmt := top 18
abbrev s_common : Stmt := top 19
abbrev s_pairs_of : Stmt := top 29
abbrev s_sides_in : Stmt := top 30
abbrev s_area_in : Stmt := top 31
abbrev s_goes_on : Stmt := top 32
abbrev s_box_of : Stmt := top 33
abbrev s_are_apart_in : Stmt := top 34
abbrev s_are_corners : Stmt := top 35
abbrev s_Fence_init : Stmt := inClass (top 36) 0
abbrev s_need_fence : Stmt := top 37
abbrev s_is_straight : Stmt := top 39
abbrev s_straight_in : Stmt := top 40
abbrev s_direction_in : Stmt := top 42
abbrev s_is_upper : Stmt := top 43
abbrev s_is_ahead : Stmt := top 44
abbrev s_numbered : Stmt := top 45
abbrev s_past_east : Stmt := top 46
abbrev s_lifts_in : Stmt := top 47
abbrev s_ranks_in : Stmt := top 48
abbrev s_places_in : Stmt := top 50
abbrev s_sorted_in : Stmt := top 51
abbrev s_field_in : Stmt := top 52
abbrev s_least_first : Stmt := top 53
abbrev s_heights_in : Stmt := top 54
abbrev s_end_of : Stmt := top 55
abbrev s_way_in : Stmt := top 56
abbrev s_width_in : Stmt := top 57
abbrev s_law_orchard : Stmt := top 59
abbrev s_law_prune : Stmt := top 60
abbrev s_law_pick : Stmt := top 61
abbrev s_law_cross : Stmt := top 62
abbrev s_law_on : Stmt := top 63
abbrev s_law_meet : Stmt := top 64
abbrev s_law_clear : Stmt := top 65
abbrev s_law_are_clear : Stmt := top 66
abbrev s_law_is_left : Stmt := top 67
abbrev s_law_grown : Stmt := top 68
abbrev s_law_curl : Stmt := top 69
abbrev s_law_fence : Stmt := top 70
abbrev s_law_begun : Stmt := top 71
abbrev s_law_quarter : Stmt := top 72
abbrev s_law_halved : Stmt := top 73
abbrev s_law : Stmt := top 74
abbrev FnP (K : PySem.W.Frag) (x q : Str) (st : Stmt) (ds : List V) (f : Addr) (fd : FuncData) : Prop := FunD K x q (defArgs st) (defBody st) (defScope st) ds [] f fd
/-! ## The walk: words that all defs share -/
section
variable {P : Program} {w : World} {K : PySem.W.Frag} {mg : Str → Option Value} {base : Heap}
/-- a def of the text that stands behind the top -/
structure Has (K : PySem.W.Frag) (mg : Str → Option Value) (x : Str) (st : Stmt) (ps : List Str) : Prop where
  ex : ∃ (f : Addr) (fd : FuncData), mg x = some (.ref f) ∧ FunD K x x (defArgs st) (defBody st) (defScope st) [] [] f fd ∧ Binds K fd ps []
/-- its promise by its body -/
theorem Has.cal {x : Str} {st : Stmt} {N ps : List Str} {k : Nat} {sp : Sp} (F : Has K mg x st ps) (S : FnScope N ps (defScope st)) (len : ∀ vs H Q E, sp vs H Q E → vs.length = ps.length)
    (hbody : ∀ (f : Addr) (cdv : Value) (A : Around) (outer : List Env) (s : Shared) (H : Hp) (vs : List V) (Q : VK) (E : XK), Room k (A.deeper (envOfC x (defScope st) s.heap.objs.size f cdv)) → sp vs H Q E →
      ∃ t, PSs (cxOf CX0 P w K mg base N x (defScope st) f cdv A outer s H E).nox (defBody st) t ∧ t { nx := fun _ H' => Q .non H', rt := Q } (start N vs) H) : Cal P w K mg base (k + 1) x sp [] := by
  obtain ⟨f, fd, hg, FF, b⟩ := F.ex
  refine ⟨f, fd, ps, [], FF.ok S len (fun cdv A outer s H vs Q E hr h => ?_), hg, FF.kp, b, .nil⟩
  obtain ⟨t, h1, h2⟩ := hbody f cdv A outer s H vs Q E hr h
  exact ⟨t, h1.nox, h2⟩
/-- v is a pair of ints -/
def IsPt (H : Hp) (v : V) (p : Pt) : Prop := ∃ a, v = .ref a ∧ H a = some (.tup [.int p.1, .int p.2])
theorem IsPt.same {H H' : Hp} {v : V} {p : Pt} (h : IsPt H v p) (s : Same H H') : IsPt H' v p := let ⟨a, e, k⟩ := h; ⟨a, e, s _ _ k⟩
theorem sameU {H H1 : Hp} {a : Addr} {o : HO} (s : Same H H1) (h : H1 a = none) : Same H (upd H1 a o) := fun b u e => by
  have e1 := s b u e
  rw [upd_ne (ne_of_none e1 h)]
  exact e1
theorem sqt {H : Hp} {a : Addr} {xs : List V} (h : H a = some (.tup xs)) : SqT K H a xs := SqT.of h
theorem sql {H : Hp} {a : Addr} {xs : List V} (h : H a = some (.lst xs)) : SqL K H a xs := SqL.of h
end
/-! ### points -/
section
variable {P : Program} {w : World} {K : PySem.W.Frag} {mg : Str → Option Value} {base : Heap}
def spWay : Sp := fun vs H Q _ => ∃ (u v : V) (a b : Pt), vs = [u, v] ∧ IsPt H u a ∧ IsPt H v b ∧ ∀ p, H p = none → Q (.ref p) (upd H p (.tup [.int (way a b).1, .int (way a b).2]))
theorem scWay : FnScope ["one", "other"] ["one", "other"] (defScope s_way) := ⟨rfl, rfl, rfl, by decide +kernel, rfl, by decide +kernel, by decide +kernel⟩
theorem c_way (F : Has K mg "way" s_way ["one", "other"]) : Cal P w K mg base 1 "way" spWay [] := by
  refine F.cal scWay (fun vs H Q E h => ?_) (fun f cdv A outer s H vs Q E hr h => ?_)
  · obtain ⟨_, _, _, _, rfl, _⟩ := h
    rfl
  · obtain ⟨_, _, a, b, rfl, ⟨u, rfl, hu⟩, ⟨v, rfl, hv⟩, k⟩ := h
    refine ⟨_, pss_one (ps_ret (pe_tup (pa_cons (pe_op op_sub (pe_ix ix_tup (pv 1) pe_int (fun _ _ => rfl)) (pe_ix ix_tup (pv 0) pe_int (fun _ _ => rfl))) (pa_cons (pe_op op_sub (pe_ix ix_tup (pv 1) pe_int (fun _ _ => rfl)) (pe_ix ix_tup (pv 0) pe_int (fun _ _ => rfl))) pa_nil)))), ?_⟩
    refine ⟨_, rfl, v, _, _, _, rfl, rfl, sqt hv, rfl, _, rfl, u, _, _, _, rfl, rfl, sqt hu, rfl, _, _, rfl, rfl, ?_⟩
    refine ⟨_, rfl, v, _, _, _, rfl, rfl, sqt hv, rfl, _, rfl, u, _, _, _, rfl, rfl, sqt hu, rfl, _, _, rfl, rfl, ?_⟩
    exact ⟨by show 2 ≤ sizeLine; decide, fun p hp => k p hp⟩
end
/-- the built-in names that the module leaves free -/
structure Bn (mg : Str → Option Value) : Prop where
  len : mg "len" = none
  isinstance : mg "isinstance" = none
  int : mg "int" = none
  bool : mg "bool" = none
  list : mg "list" = none
  tuple : mg "tuple" = none
  all : mg "all" = none
  min : mg "min" = none
  max : mg "max" = none
  sorted : mg "sorted" = none
  abs : mg "abs" = none
  zip : mg "zip" = none
  sum : mg "sum" = none
  range : mg "range" = none
  set : mg "set" = none
  enumerate : mg "enumerate" = none
  divmod : mg "divmod" = none
  repr : mg "repr" = none
section
variable {X : Cx} {a b : Expr} {ta tb : TE} {pos : Pos}
theorem ixT (ha : PE X a ta) (hb : PE X b tb) (hs : PlainIx b := by exact fun _ _ => rfl) : PE X (.Subscript a b pos) (tOp (rIxT X.K) ta tb) := pe_ix ix_tup ha hb hs
theorem ixL (ha : PE X a ta) (hb : PE X b tb) (hs : PlainIx b := by exact fun _ _ => rfl) : PE X (.Subscript a b pos) (tOp (rIxL X.K) ta tb) := pe_ix ix_list ha hb hs
end
end Bay
namespace Bay
open PySem PySem.Spec PyProof.Rows L2
open C8 (Cal pe_c Mak pe_mk)
section
variable {P : Program} {w : World} {K : PySem.W.Frag} {mg : Str → Option Value} {base : Heap}
def Sm (b : Int) (p : Pt) : Prop := (-b < p.1 ∧ p.1 < b) ∧ (-b < p.2 ∧ p.2 < b)
def spCross : Sp := fun vs H Q _ => ∃ (u v : V) (a b : Pt), vs = [u, v] ∧ IsPt H u a ∧ IsPt H v b ∧ Sm (2 ^ 64) a ∧ Q (.int (cr a b)) H
theorem scCross : FnScope ["one", "other"] ["one", "other"] (defScope s_cross) := ⟨rfl, rfl, rfl, by decide +kernel, rfl, by decide +kernel, by decide +kernel⟩
theorem c_cross (F : Has K mg "cross" s_cross ["one", "other"]) : Cal P w K mg base 1 "cross" spCross [] := by
  refine F.cal scCross (fun vs H Q E h => ?_) (fun f cdv A outer s H vs Q E hr h => ?_)
  · obtain ⟨_, _, _, _, rfl, _⟩ := h
    rfl
  · obtain ⟨_, _, a, b, rfl, ⟨u, rfl, hu⟩, ⟨v, rfl, hv⟩, sm, k⟩ := h
    refine ⟨_, (pss_one (ps_ret (pe_op op_sub (pe_op op_mul (ixT (pv 0) pe_int) (ixT (pv 1) pe_int)) (pe_op op_mul (ixT (pv 0) pe_int) (ixT (pv 1) pe_int))))), ?_⟩
    refine ⟨_, rfl, u, _, _, _, rfl, rfl, sqt hu, rfl, _, rfl, v, _, _, _, rfl, rfl, sqt hv, rfl, _, _, rfl, rfl, .inl sm.1, ?_⟩
    refine ⟨_, rfl, u, _, _, _, rfl, rfl, sqt hu, rfl, _, rfl, v, _, _, _, rfl, rfl, sqt hv, rfl, _, _, rfl, rfl, .inl sm.2, _, _, rfl, rfl, ?_⟩
    exact k
def sgn (n : Int) : Int := (if 0 < n then 1 else 0) - (if n < 0 then 1 else 0)
def spSign : Sp := fun vs H Q _ => ∃ n : Int, vs = [.int n] ∧ Q (.int (sgn n)) H
theorem scSignOf : FnScope ["number"] ["number"] (defScope s_sign_of) := ⟨rfl, rfl, rfl, by decide +kernel, rfl, by decide +kernel, by decide +kernel⟩
theorem c_sign_of (B : Bn mg) (F : Has K mg "sign_of" s_sign_of ["number"]) : Cal P w K mg base 1 "sign_of" spSign [] := by
  refine F.cal scSignOf (fun vs H Q E h => ?_) (fun f cdv A outer s H vs Q E hr h => ?_)
  · obtain ⟨_, rfl, _⟩ := h
    rfl
  · obtain ⟨n, rfl, k⟩ := h
    refine ⟨_, (pss_one (ps_ret (pe_op op_sub (pe_callTy call_int1 (by rfl) B.int (by decide +kernel) (pa_cons (pe_cmpR op_gt (pv 0) pe_int (nomark _)) pa_nil)) (pe_callTy call_int1 (by rfl) B.int (by decide +kernel) (pa_cons (pe_cmpR op_lt (pv 0) pe_int (nomark _)) pa_nil))))), ?_⟩
    refine ⟨_, rfl, _, _, rfl, rfl, .inr ⟨_, rfl, ?_⟩⟩
    refine ⟨_, rfl, _, _, rfl, rfl, .inr ⟨_, rfl, _, _, rfl, rfl, ?_⟩⟩
    have e : sgn n = b2i (decide (0 < n)) - b2i (decide (n < 0)) := by unfold sgn b2i; simp
    rw [e] at k
    exact k
def spTurn : Sp := fun vs H Q _ => ∃ (u v t : V) (a b c : Pt), vs = [u, v, t] ∧ IsPt H u a ∧ IsPt H v b ∧ IsPt H t c ∧ Sm (2 ^ 62) a ∧ Sm (2 ^ 62) b ∧ ∀ H', Same H H' → Q (.int (cr (way a b) (way a c))) H'
theorem scTurnOf : FnScope ["one", "other", "point"] ["one", "other", "point"] (defScope s_turn_of) := ⟨rfl, rfl, rfl, by decide +kernel, rfl, by decide +kernel, by decide +kernel⟩
theorem sm_way {a b : Pt} {n m : Int} (ha : Sm n a) (hb : Sm n b) (h : 2 * n ≤ m) : Sm m (way a b) := by
  unfold Sm way at *
  simp only
  omega
theorem c_turn_of (CC : Cal P w K mg base 1 "cross" spCross []) (CW : Cal P w K mg base 1 "way" spWay []) (F : Has K mg "turn_of" s_turn_of ["one", "other", "point"]) : Cal P w K mg base 2 "turn_of" spTurn [] := by
  refine F.cal scTurnOf (fun vs H Q E h => ?_) (fun f cdv A outer s H vs Q E hr h => ?_)
  · obtain ⟨_, _, _, _, _, _, rfl, _⟩ := h
    rfl
  · obtain ⟨u, v, t, a, b, c, rfl, hu, hv, ht, sa, sb, k⟩ := h
    refine ⟨_, (pss_one (ps_ret (pe_c CC hr (by decide) rfl (pa_cons (pe_c CW hr (by decide) rfl (pa_cons (pv 0) (pa_cons (pv 1) pa_nil))) (pa_cons (pe_c CW hr (by decide) rfl (pa_cons (pv 0) (pa_cons (pv 2) pa_nil))) pa_nil))))), ?_⟩
    refine ⟨_, rfl, _, rfl, u, v, a, b, rfl, hu, hv, fun p hp => ?_⟩
    have s1 := sameU (o := .tup [.int (way a b).1, .int (way a b).2]) (Same.refl H) hp
    refine ⟨_, rfl, _, rfl, u, t, a, c, rfl, hu.same s1, ht.same s1, fun q hq => ?_⟩
    have s2 := sameU (o := .tup [.int (way a c).1, .int (way a c).2]) s1 hq
    refine ⟨.ref p, .ref q, way a b, way a c, rfl, ⟨p, rfl, ?_⟩, ⟨q, rfl, upd_same⟩, sm_way sa sb (by decide), k _ s2⟩
    rw [upd_ne (ne_of_none upd_same hq), upd_same]
end
end Bay
namespace Bay
open PySem PySem.Spec PyProof.Rows L2
open C8 (Cal pe_c Mak pe_mk)
/-! ## list(zip(x, y)): the tuples stay, so each turn makes a new one -/
section
variable {prog : Program} {w : World} {A : Around} {E : Value → Shared → Prop} {s : Shared} {z TI TO i1 i2 T : Addr} {fp1 fp2 : List Addr} {n1 n2 i : Nat} {P1 P2 : Nat → Value → Prop} {St1 St2 : Nat → Heap → Prop} {a1 a2 : Value}
theorem zl_held {Q : Value → Shared → Prop} {f : Bool} {oT : Obj} (S : ZipSep2 z TI TO i1 i2 fp1 fp2) (D1 : Draws prog w A i1 fp1 n1 P1 St1) (D2 : Draws prog w A i2 fp2 n2 P2 St2)
    (hz : IsZipHeld s.heap z TI TO T f) (hT : s.heap.get? T = some oT) (hTI : IsTupOf2 s.heap TI (.ref i1) (.ref i2)) (st1 : St1 i s.heap) (st2 : St2 i s.heap) (hlt1 : i < n1) (hlt2 : i < n2)
    (hQ : ∀ x1 x2 h' tk, P1 i x1 → P2 i x2 → IsZipHeld h' z TI TO T true → St1 (i + 1) h' → St2 (i + 1) h' → IsTupOf2 h' s.heap.objs.size x1 x2 → h'.objs.size = s.heap.objs.size + 1 →
      (∀ c o, c ≠ z → c ≠ i1 → c ≠ i2 → s.heap.get? c = some o → h'.get? c = some o) → Q (.ref s.heap.objs.size) { s with heap := h', toks := tk }) :
    wpAny (model prog w) A (Builtin.«zip.__next__» ⟨[.ref z], []⟩) (fun fin s' => ∃ v, fin = .done (.ret v) ∧ Q v s') E s := by
  obtain ⟨hp, g, d, tk0, os⟩ := s
  show wpAny _ _ (field (.ref z) 2 >>= _) _ _ _
  refine wpAny_bind (wpAny_field hz rfl (x := .bool false) rfl ?_)
  show wpAny _ _ (field (.ref z) 3 >>= _) _ _ _
  refine wpAny_bind (wpAny_field hz rfl (x := .ref TI) rfl ?_)
  refine wpAny_bind (wpAny_seqItems hTI rfl ?_)
  show wpAny _ _ (Builtin.SmallTypes.ownedTupleIsFree (.ref z) >>= _) _ _ _
  refine wpAny_bind (wpAny_tupleHeld_zip hz hT fun g1 hz1 hs1 => ?_)
  replace hs1 : Heap.SameBut z hp g1 := hs1
  simp only [Bool.false_eq_true, if_false]
  refine wpAny_bind ?_
  rw [← Array.forIn_toList]
  simp only [List.forIn_cons, List.forIn_nil]
  refine wpAny_bind (wpAny_bind (wpAny_holding ?_))
  show wpAny _ _ (Builtin.SmallTypes.nextOf (.ref i1) >>= _) _ _ ⟨g1, g, d, tk0, os⟩
  refine wpAny_bind (D1.item i _ _ _ hlt1 (D1.over st1 hs1 S.zf1) fun x1 p1 tk1 hx1 sn1 hp1 => wpAny_pure ?_)
  replace hp1 : Heap.SameBut i1 g1 p1 := hp1
  refine wpAny_pure ?_
  refine wpAny_bind (wpAny_bind (wpAny_holding ?_))
  show wpAny _ _ (Builtin.SmallTypes.nextOf (.ref i2) >>= _) _ _ ⟨p1, g, d, tk1, os⟩
  refine wpAny_bind (D2.item i _ _ _ hlt2 (D2.over (D2.over st2 hs1 S.zf2) hp1 S.sep1_2) fun x2 p2 tk2 hx2 sn2 hp2 => wpAny_pure ?_)
  replace hp2 : Heap.SameBut i2 p1 p2 := hp2
  refine wpAny_pure (wpAny_pure ?_)
  show wpAny _ _ (newTuple [x1, x2] >>= _) _ _ ⟨p2, g, d, tk2, os⟩
  refine wpAny_bind (wpAny_newTuple ?_)
  have hsz : p2.objs.size = hp.objs.size := by rw [hp2.1, hp1.1, hs1.1]
  have hz2 : IsZipHeld p2 z TI TO T true := hp2.extBut _ _ S.zi2 (hp1.extBut _ _ S.zi1 hz1)
  have hk : ∀ c o, c ≠ z → c ≠ i1 → c ≠ i2 → hp.get? c = some o → p2.get? c = some o := fun c o c1 c2 c3 e => hp2.extBut _ _ c3 (hp1.extBut _ _ c2 (hs1.extBut _ _ c1 e))
  have sn1' : St1 (i + 1) p2 := D1.over sn1 hp2 S.sep2_1
  refine wpAny_pure ⟨_, rfl, ?_⟩
  show Q (.ref p2.objs.size) _
  have hpp : IsTupOf2 (p2.push { cls := .type "tuple", data := .seq #[x1, x2] }) p2.objs.size x1 x2 := Heap.get?_push_size _ rfl
  have hz4 : (p2.push { cls := .type "tuple", data := .seq #[x1, x2] }).objs.size = p2.objs.size + 1 := Heap.size_push ..
  rw [hsz] at hpp hz4 ⊢
  exact hQ x1 x2 _ _ hx1 hx2 (Heap.get?_push_of_some _ hz2) (D1.frame _ _ _ sn1' fun b _ o e => Heap.get?_push_of_some _ e) (D2.frame _ _ _ sn2 fun b _ o e => Heap.get?_push_of_some _ e) hpp hz4 fun c o c1 c2 c3 e => Heap.get?_push_of_some _ (hk c o c1 c2 c3 e)
theorem zl_heldEnd {Q : Fin → Shared → Prop} {f : Bool} {oT : Obj} (S : ZipSep2 z TI TO i1 i2 fp1 fp2) (D1 : Draws prog w A i1 fp1 n1 P1 St1) (D2 : Draws prog w A i2 fp2 n2 P2 St2)
    (hz : IsZipHeld s.heap z TI TO T f) (hT : s.heap.get? T = some oT) (hTI : IsTupOf2 s.heap TI (.ref i1) (.ref i2)) (st1 : St1 n1 s.heap)
    (hE : ∀ h' e, (∀ c o, c ≠ z → c ≠ i1 → c ≠ i2 → s.heap.get? c = some o → h'.get? c = some o) → (∃ o, h'.get? e = some o ∧ o.cls = .type "StopIteration") → E (.ref e) { s with heap := h' }) :
    wpAny (model prog w) A (Builtin.«zip.__next__» ⟨[.ref z], []⟩) Q E s := by
  obtain ⟨hp, g, d, tk0, os⟩ := s
  show wpAny _ _ (field (.ref z) 2 >>= _) _ _ _
  refine wpAny_bind (wpAny_field hz rfl (x := .bool false) rfl ?_)
  show wpAny _ _ (field (.ref z) 3 >>= _) _ _ _
  refine wpAny_bind (wpAny_field hz rfl (x := .ref TI) rfl ?_)
  refine wpAny_bind (wpAny_seqItems hTI rfl ?_)
  show wpAny _ _ (Builtin.SmallTypes.ownedTupleIsFree (.ref z) >>= _) _ _ _
  refine wpAny_bind (wpAny_tupleHeld_zip hz hT fun g1 hz1 hs1 => ?_)
  replace hs1 : Heap.SameBut z hp g1 := hs1
  simp only [Bool.false_eq_true, if_false]
  refine wpAny_bind ?_
  rw [← Array.forIn_toList]
  simp only [List.forIn_cons, List.forIn_nil]
  refine wpAny_bind (wpAny_bind (wpAny_holding ?_))
  show wpAny _ _ (Builtin.SmallTypes.nextOf (.ref i1) >>= _) _ _ ⟨g1, g, d, tk0, os⟩
  refine wpAny_bind (D1.done _ _ _ (D1.over st1 hs1 S.zf1) fun h2 e hs2 he => ?_)
  exact hE h2 e (fun c o c1 c2 _ x => hs2 _ _ c2 (hs1.extBut _ _ c1 x)) he
theorem zl_next {Q : Option Value → Shared → Prop} {f : Bool} {oT : Obj} (S : ZipSep2 z TI TO i1 i2 fp1 fp2) (D1 : Draws prog w A.in1 i1 fp1 n1 P1 St1) (D2 : Draws prog w A.in1 i2 fp2 n2 P2 St2)
    (hz : IsZipHeld s.heap z TI TO T f) (hT : s.heap.get? T = some oT) (hTI : IsTupOf2 s.heap TI (.ref i1) (.ref i2)) (st1 : St1 i s.heap) (st2 : St2 i s.heap) (hlt1 : i < n1) (hlt2 : i < n2)
    (hQ : ∀ x1 x2 h' tk, P1 i x1 → P2 i x2 → IsZipHeld h' z TI TO T true → St1 (i + 1) h' → St2 (i + 1) h' → IsTupOf2 h' s.heap.objs.size x1 x2 → h'.objs.size = s.heap.objs.size + 1 →
      (∀ c o, c ≠ z → c ≠ i1 → c ≠ i2 → s.heap.get? c = some o → h'.get? c = some o) → Q (some (.ref s.heap.objs.size)) { s with heap := h', toks := tk }) :
    wpAny (model prog w) A (pyNext (.ref z)) Q E s := by
  have hTy : s.TypeIs (.ref z) "zip" := ⟨_, hz, rfl⟩
  unfold pyNext
  exact wpAny_bind (wpAny_attempt (wpAny_callSpecial?_slot (name := Str.ofString "__next__") hTy PySem.F.slot_zip_next
    (wpAny_call_entry PySem.F.slot_zip_next hTy PySem.F.entry_zip_next
      (zl_held S D1 D2 hz hT hTI st1 st2 hlt1 hlt2 fun x1 x2 h' tk y1 y2 b1 d1 d2 b5 b6 b7 => wpAny_pure (hQ x1 x2 h' tk y1 y2 b1 d1 d2 b5 b6 b7)) (PySem.F.args_zip_next_1 _))))
theorem zl_nextEnd {Q : Option Value → Shared → Prop} {f : Bool} {oT : Obj} (S : ZipSep2 z TI TO i1 i2 fp1 fp2) (D1 : Draws prog w A.in1 i1 fp1 n1 P1 St1) (D2 : Draws prog w A.in1 i2 fp2 n2 P2 St2)
    (hz : IsZipHeld s.heap z TI TO T f) (hT : s.heap.get? T = some oT) (hTI : IsTupOf2 s.heap TI (.ref i1) (.ref i2)) (st1 : St1 n1 s.heap)
    (hQ : ∀ h', (∀ c o, c ≠ z → c ≠ i1 → c ≠ i2 → s.heap.get? c = some o → h'.get? c = some o) → Q none { s with heap := h' }) : wpAny (model prog w) A (pyNext (.ref z)) Q E s := by
  have hTy : s.TypeIs (.ref z) "zip" := ⟨_, hz, rfl⟩
  unfold pyNext
  refine wpAny_bind (wpAny_attempt (wpAny_callSpecial?_slot (name := Str.ofString "__next__") hTy PySem.F.slot_zip_next
    (wpAny_call_entry PySem.F.slot_zip_next hTy PySem.F.entry_zip_next (zl_heldEnd S D1 D2 hz hT hTI st1 fun h' e hk he => ?_) (PySem.F.args_zip_next_1 _))))
  obtain ⟨o, ho, hc⟩ := he
  refine wpAny_bind (wpAny_isInstance (T := "StopIteration") (b := true) ⟨o, ho, hc⟩ isSubtype_stop ?_)
  exact wpAny_pure (hQ _ hk)
end
end Bay
namespace Bay
open PySem PySem.Spec PyProof.Rows L2
open C8 (Cal pe_c Mak pe_mk)
/-- the pairs that were made, in order -/
structure ZlG (P1 P2 : Nat → Value → Prop) (lo : Addr) (h : Heap) (as : List Addr) : Prop where
  rise : as.Pairwise (· < ·)
  above : ∀ a ∈ as, lo < a
  pairs : ∀ (j : Nat) (a : Addr), as[j]? = some a → ∃ x1 x2, P1 j x1 ∧ P2 j x2 ∧ IsTupOf2 h a x1 x2
theorem ZlG.there {P1 P2 : Nat → Value → Prop} {lo : Addr} {h : Heap} {as : List Addr} (g : ZlG P1 P2 lo h as) {a : Addr} (ha : a ∈ as) : a < h.objs.size := by
  obtain ⟨j, hj⟩ := List.mem_iff_getElem?.mp ha
  obtain ⟨_, _, _, _, e⟩ := g.pairs j a hj
  exact Heap.lt_size e
/-- the zip ahead of turn i; S: the list that is filled -/
def ZlS (z TI TO i1 i2 S : Addr) (St1 St2 : Nat → Heap → Prop) (i : Nat) (h : Heap) : Prop :=
  IsTupOf2 h TI (.ref i1) (.ref i2) ∧ St1 i h ∧ St2 i h ∧ ((IsZip h z TI TO .none ∧ ∃ a b, IsTupOf2 h TO a b) ∨ ∃ (T : Addr) (f : Bool) (oT : Obj), IsZipHeld h z TI TO T f ∧ h.get? T = some oT ∧ T ≠ z ∧ T ≠ i1 ∧ T ≠ i2 ∧ T ≠ S)
section
variable {prog : Program} {w : World} {A : Around} {E : Value → Shared → Prop} {s : Shared} {z TI TO i1 i2 S : Addr} {fp1 fp2 : List Addr} {n i : Nat} {P1 P2 : Nat → Value → Prop} {St1 St2 : Nat → Heap → Prop}
theorem zl_typed {h : Heap} (hst : ZlS z TI TO i1 i2 S St1 St2 i h) : ∃ o, h.get? z = some o ∧ o.cls = .type "zip" := by
  obtain ⟨_, _, _, ⟨hz, _⟩ | ⟨_, _, _, hz, _⟩⟩ := hst
  · exact ⟨_, hz, rfl⟩
  · exact ⟨_, hz, rfl⟩
theorem zl_item {Q : Option Value → Shared → Prop} (Z : ZipSep2 z TI TO i1 i2 fp1 fp2) (D1 : Draws prog w A.in1 i1 fp1 n P1 St1) (D2 : Draws prog w A.in1 i2 fp2 n P2 St2) (hst : ZlS z TI TO i1 i2 S St1 St2 i s.heap) (hS : S < s.heap.objs.size) (hi : i < n)
    (hQ : ∀ h' tk, ZlS z TI TO i1 i2 S St1 St2 (i + 1) h' → (∃ x1 x2, P1 i x1 ∧ P2 i x2 ∧ IsTupOf2 h' s.heap.objs.size x1 x2) → h'.objs.size = s.heap.objs.size + 1 →
      (∀ c o, c ≠ z → c ≠ TO → c ≠ i1 → c ≠ i2 → s.heap.get? c = some o → h'.get? c = some o) → Q (some (.ref s.heap.objs.size)) { s with heap := h', toks := tk }) : wpAny (model prog w) A (pyNext (.ref z)) Q E s := by
  obtain ⟨hTI, st1, st2, hz⟩ := hst
  have lt : ∀ {c o}, s.heap.get? c = some o → s.heap.objs.size ≠ c := fun e => Nat.ne_of_gt (Heap.lt_size e)
  have l1 : s.heap.objs.size ≠ i1 := by obtain ⟨_, e⟩ := D1.live _ _ st1; exact lt e
  have l2 : s.heap.objs.size ≠ i2 := by obtain ⟨_, e⟩ := D2.live _ _ st2; exact lt e
  rcases hz with ⟨hz, a, b, hTO⟩ | ⟨T, f, oT, hz, hT, r1, r2, r3, r4⟩
  · refine wpAny_pyNext_zipD2_item Z D1 D2 hz hTI hTO st1 st2 hi hi fun x1 x2 h' tk y1 y2 b1 b2 d1 d2 b5 b6 hk => ?_
    exact hQ h' tk ⟨hk _ _ Z.TIz Z.TITO Z.TIi1 Z.TIi2 hTI, d1, d2, .inr ⟨s.heap.objs.size, false, _, b1, b5, lt hz, l1, l2, Nat.ne_of_gt hS⟩⟩ ⟨x1, x2, y1, y2, b5⟩ b6 hk
  · refine zl_next Z D1 D2 hz hT hTI st1 st2 hi hi fun x1 x2 h' tk y1 y2 b1 d1 d2 b5 b6 hk => ?_
    exact hQ h' tk ⟨hk _ _ Z.TIz Z.TIi1 Z.TIi2 hTI, d1, d2, .inr ⟨T, true, oT, b1, hk _ _ r1 r2 r3 hT, r1, r2, r3, r4⟩⟩ ⟨x1, x2, y1, y2, b5⟩ b6 fun c o c1 _ c3 c4 e => hk c o c1 c3 c4 e
theorem zl_done {Q : Option Value → Shared → Prop} (Z : ZipSep2 z TI TO i1 i2 fp1 fp2) (D1 : Draws prog w A.in1 i1 fp1 n P1 St1) (D2 : Draws prog w A.in1 i2 fp2 n P2 St2) (hst : ZlS z TI TO i1 i2 S St1 St2 n s.heap)
    (hQ : ∀ h' tk, (∀ c o, c ≠ z → c ≠ TO → c ≠ i1 → c ≠ i2 → s.heap.get? c = some o → h'.get? c = some o) → Q none { s with heap := h', toks := tk }) : wpAny (model prog w) A (pyNext (.ref z)) Q E s := by
  obtain ⟨hTI, st1, st2, hz⟩ := hst
  rcases hz with ⟨hz, a, b, hTO⟩ | ⟨T, f, oT, hz, hT, _, _, _, _⟩
  · exact wpAny_pyNext_zipD2_end Z D1 D2 hz hTI hTO st1 st2 (Nat.le_refl _) (Nat.le_refl _) (.inl rfl) fun h' tk hk => hQ h' tk hk
  · exact zl_nextEnd Z D1 D2 hz hT hTI st1 fun h' hk => hQ h' s.toks fun c o c1 _ c3 c4 e => hk c o c1 c3 c4 e
end
section
variable {prog : Program} {w : World} {A : Around} {s : Shared} {R : Result → Shared → Prop} {z TI TO i1 i2 S : Addr} {fp1 fp2 : List Addr} {n : Nat} {P1 P2 : Nat → Value → Prop} {St1 St2 : Nat → Heap → Prop}
/-- S lies apart from the zip's own -/
structure ZlA (z TI TO i1 i2 S : Addr) (fp1 fp2 : List Addr) : Prop where
  Sz : S ≠ z
  STI : S ≠ TI
  STO : S ≠ TO
  Si1 : S ≠ i1
  Si2 : S ≠ i2
  f1 : S ∉ fp1
  f2 : S ∉ fp2
theorem ZlS.push {i : Nat} {h h' : Heap} (D1 : Draws prog w A.in1 i1 fp1 n P1 St1) (D2 : Draws prog w A.in1 i2 fp2 n P2 St2) (V : ZlA z TI TO i1 i2 S fp1 fp2) (up : ∀ b o, b ≠ S → h.get? b = some o → h'.get? b = some o) (hst : ZlS z TI TO i1 i2 S St1 St2 i h) : ZlS z TI TO i1 i2 S St1 St2 i h' := by
  obtain ⟨hTI, st1, st2, hz⟩ := hst
  refine ⟨up _ _ (Ne.symm V.STI) hTI, D1.frame _ _ _ st1 fun b hb o e => up b o (fun q => V.f1 (q ▸ hb)) e, D2.frame _ _ _ st2 fun b hb o e => up b o (fun q => V.f2 (q ▸ hb)) e, ?_⟩
  rcases hz with ⟨hz, a, b, hTO⟩ | ⟨T, f, oT, hz, hT, r1, r2, r3, r4⟩
  · exact .inl ⟨up _ _ (Ne.symm V.Sz) hz, a, b, up _ _ (Ne.symm V.STO) hTO⟩
  · exact .inr ⟨T, f, oT, up _ _ (Ne.symm V.Sz) hz, up _ _ r4 hT, r1, r2, r3, r4⟩
theorem zl_loop (Z : ZipSep2 z TI TO i1 i2 fp1 fp2) (V : ZlA z TI TO i1 i2 S fp1 fp2) (D1 : Draws prog w A.in1.in1 i1 fp1 n P1 St1) (D2 : Draws prog w A.in1.in1 i2 fp2 n P2 St2) (hzS : z < S) (hTOS : TO < S) (hiS : i1 < S) (hjS : i2 < S) (hn : n ≤ sizeLine) (res : Value) {hA : Heap}
    (hR : ∀ h' tk acc c as, (∀ b o, b ≠ S → b ≠ z → b ≠ TO → b ≠ i1 → b ≠ i2 → hA.get? b = some o → h'.get? b = some o) → h'.get? S = some { cls := .type "list", dict := none, data := .seq acc c, slots := #[] } → as.length = n → ZlG P1 P2 S h' as →
      acc.toList = as.map Value.ref → R (.ok (.ret res)) { s with heap := h', toks := tk }) :
    ∀ (k i : Nat) (h : Heap) (tk c : Nat) (acc : Array Value) (as : List Addr), n - i = k → i ≤ n → ZlS z TI TO i1 i2 S St1 St2 i h → (∀ b o, b ≠ S → b ≠ z → b ≠ TO → b ≠ i1 → b ≠ i2 → hA.get? b = some o → h.get? b = some o) →
      h.get? S = some { cls := .type "list", dict := none, data := .seq acc c, slots := #[] } → acc.toList = as.map Value.ref → as.length = i → ZlG P1 P2 S h as →
      codeAny (model prog w) A (.builtin "list.extend.loop" ⟨[.ref S, .ref z, res], []⟩) R { s with heap := h, toks := tk } := by
  intro k
  induction k with
  | zero =>
    intro i h tk c acc as hk hi hst hkeep hS hacc hal hG
    have hin : i = n := by omega
    subst hin
    refine codeAny_builtin PySem.F.entry_extend_loop ?_
    rw [Around.under_plainId PySem.F.plain_extend_loop _]
    show wpAny _ A.in1 (pyNext (.ref z) >>= _) _ _ _
    refine wpAny_bind (zl_done (s := { s with heap := h, toks := tk }) (A := A.in1) (S := S) Z D1 D2 hst fun h' tk' he => ?_)
    have up : ∀ a, S < a → ∀ o, h.get? a = some o → h'.get? a = some o := fun a ha o e => he a o (Nat.ne_of_gt (Nat.lt_trans hzS ha)) (Nat.ne_of_gt (Nat.lt_trans hTOS ha)) (Nat.ne_of_gt (Nat.lt_trans hiS ha)) (Nat.ne_of_gt (Nat.lt_trans hjS ha)) e
    refine wpAny_pure (hR h' tk' acc c as (fun b o b1 b2 b3 b4 b5 e => he b o b2 b3 b4 b5 (hkeep b o b1 b2 b3 b4 b5 e)) (he S _ V.Sz V.STO V.Si1 V.Si2 hS) (by omega) ⟨hG.rise, hG.above, fun j a hj => ?_⟩ hacc)
    obtain ⟨x1, x2, p1, p2, e3⟩ := hG.pairs j a hj
    exact ⟨x1, x2, p1, p2, up a (hG.above a (List.mem_of_getElem? hj)) _ e3⟩
  | succ k ih =>
    intro i h tk c acc as hk hi hst hkeep hS hacc hal hG
    have hlt : i < n := by omega
    have hsz : acc.size = i := by rw [← Array.length_toList, hacc, List.length_map, hal]
    have hSl : S < h.objs.size := Heap.lt_size hS
    refine codeAny_builtin PySem.F.entry_extend_loop ?_
    rw [Around.under_plainId PySem.F.plain_extend_loop _]
    show wpAny _ A.in1 (pyNext (.ref z) >>= _) _ _ _
    refine wpAny_bind (zl_item (s := { s with heap := h, toks := tk }) (A := A.in1) (S := S) Z D1 D2 hst hSl hlt fun h' tk' hst' ht hz hkp => ?_)
    dsimp only at ht hz hkp ⊢
    have hS' := hkp S _ V.Sz V.STO V.Si1 V.Si2 hS
    have up : ∀ b o, b ≠ S → h'.get? b = some o → (h'.update S (Obj.mapSeq (·.push (Value.ref h.objs.size)))).get? b = some o := fun b o hb e => (Heap.get?_update_other _ _ (Ne.symm hb)).trans e
    have upa : ∀ a, S < a → ∀ o, h.get? a = some o → h'.get? a = some o := fun a ha o e => hkp a o (Nat.ne_of_gt (Nat.lt_trans hzS ha)) (Nat.ne_of_gt (Nat.lt_trans hTOS ha)) (Nat.ne_of_gt (Nat.lt_trans hiS ha)) (Nat.ne_of_gt (Nat.lt_trans hjS ha)) e
    show wpAny _ A.in1 (updateSeq S (·.push (Value.ref h.objs.size)) >>= _) _ _ _
    refine wpAny_bind ?_
    refine wpAny_updateSeq hS' rfl (wpAny_pure ⟨plainId_quiet PySem.F.plain_extend_loop _, ih (i + 1) _ tk' _ (acc.push (Value.ref h.objs.size)) (as ++ [h.objs.size]) (by omega) hlt (hst'.push (A := A.in1) D1 D2 V up)
      (fun b o b1 b2 b3 b4 b5 e => up b o b1 (hkp b o b2 b3 b4 b5 (hkeep b o b1 b2 b3 b4 b5 e))) (Heap.get?_update_self _ hS' rfl) (by rw [Array.toList_push, hacc, List.map_append]; rfl) (by rw [List.length_append, hal]; rfl) ⟨?_, ?_, ?_⟩⟩) (by rw [hsz]; omega) (by show (acc.push (Value.ref h.objs.size)).size ≤ sizeLine + 1; rw [Array.size_push, hsz]; omega)
    · refine List.pairwise_append.mpr ⟨hG.rise, List.pairwise_singleton _ _, fun a ha b hb => ?_⟩
      rw [List.mem_singleton.mp hb]
      exact hG.there ha
    · intro a ha
      rcases List.mem_append.mp ha with ha | ha
      · exact hG.above a ha
      · rw [List.mem_singleton.mp ha]; exact hSl
    · intro j b hj
      rcases Nat.lt_trichotomy j as.length with q1 | q1 | q1
      · rw [List.getElem?_append_left q1] at hj
        obtain ⟨x1, x2, p1, p2, e3⟩ := hG.pairs j b hj
        have hb := hG.above b (List.mem_of_getElem? hj)
        exact ⟨x1, x2, p1, p2, up b _ (Nat.ne_of_gt hb) (upa b hb _ e3)⟩
      · subst q1
        have hb : h.objs.size = b := by simpa using hj
        subst hb
        obtain ⟨x1, x2, p1, p2, e3⟩ := ht
        subst hal
        exact ⟨x1, x2, p1, p2, up _ _ (Nat.ne_of_gt hSl) e3⟩
      · have hnone : (as ++ [h.objs.size])[j]? = none := List.getElem?_eq_none (by rw [List.length_append, List.length_singleton]; omega)
        rw [hnone] at hj; cases hj
end
end Bay
namespace Bay
open PySem PySem.Spec PyProof.Rows L2
open C8 (Cal pe_c Mak pe_mk)
theorem zip_nolen : typeLookup (.type "zip") "__len__" = pure none := by rw [typeLookup_type, builtinLookup_eq_fast]; kernel_rfl
theorem zip_nohint : typeLookup (.type "zip") "__length_hint__" = pure none := by rw [typeLookup_type, builtinLookup_eq_fast]; kernel_rfl
section
variable {prog : Program} {w : World} {A : Around} {E : Value → Shared → Prop} {s : Shared} {z : Addr}
theorem zl_hint {Q : Bool → Shared → Prop} (hT : s.TypeIs (.ref z) "zip") (h : Q true s) : wpAny (model prog w) A (Builtin.List.listLengthHint (.ref z)) Q E s := by
  unfold Builtin.List.listLengthHint
  refine wpAny_bind (wpAny_specialOf hT zip_nolen ?_)
  refine wpAny_ite_split (fun hab => absurd hab (by decide)) (fun _ => ?_)
  refine wpAny_ite_split (fun hab => absurd hab (by decide)) (fun _ => ?_)
  refine wpAny_bind (wpAny_specialOf hT zip_nohint ?_)
  exact wpAny_pure h
end
section
variable {prog : Program} {w : World} {A : Around} {E : Value → Shared → Prop} {s : Shared} {z TI TO i1 i2 : Addr} {fp1 fp2 : List Addr} {n : Nat} {P1 P2 : Nat → Value → Prop} {St1 St2 : Nat → Heap → Prop}
theorem zl_extend {R : Result → Shared → Prop} {a b : Value} (S : Addr) (Z : ZipSep2 z TI TO i1 i2 fp1 fp2) (V : ZlA z TI TO i1 i2 S fp1 fp2) (D1 : Draws prog w A.in1.in1 i1 fp1 n P1 St1) (D2 : Draws prog w A.in1.in1 i2 fp2 n P2 St2) (hzS : z < S) (hTOS : TO < S) (hiS : i1 < S) (hjS : i2 < S) (hn : n ≤ sizeLine)
    (hz : IsZip s.heap z TI TO .none) (hTI : IsTupOf2 s.heap TI (.ref i1) (.ref i2)) (hTO : IsTupOf2 s.heap TO a b) (st1 : St1 0 s.heap) (st2 : St2 0 s.heap) (res : Value) (c0 : Nat) (hS : s.heap.get? S = some { cls := .type "list", data := .seq #[] c0 })
    (hR : ∀ h' tk acc c as, (∀ b o, b ≠ S → b ≠ z → b ≠ TO → b ≠ i1 → b ≠ i2 → s.heap.get? b = some o → h'.get? b = some o) → h'.get? S = some { cls := .type "list", dict := none, data := .seq acc c, slots := #[] } → as.length = n → ZlG P1 P2 S h' as →
      acc.toList = as.map Value.ref → R (.ok (.ret res)) { s with heap := h', toks := tk }) :
    wpAny (model prog w) A.in1 (Builtin.List.listExtendWith (.ref S) (.ref z) res)
      (fun fin s' => match fin with | .done f => R (.ok f) s' | .again c' => c'.quiet = true ∧ codeAny (model prog w) A c' R s') (fun e s' => R (.error e) s') s := by
  have key : ∀ (h : Heap) (c1 tk : Nat), (∀ b o, b ≠ S → s.heap.get? b = some o → h.get? b = some o) → h.get? S = some { cls := .type "list", data := .seq #[] c1 } →
      codeAny (model prog w) A (.builtin "list.extend.loop" ⟨[.ref S, .ref z, res], []⟩) R { s with heap := h, toks := tk } := by
    intro h c1 tk hk hS1
    refine zl_loop (s := s) (hA := s.heap) Z V D1 D2 hzS hTOS hiS hjS hn res hR n 0 h tk c1 #[] [] (Nat.sub_zero _) (Nat.zero_le _) ?_ (fun b o b1 _ _ _ _ e => hk b o b1 e) hS1 rfl rfl
      ⟨List.Pairwise.nil, (fun _ ha => nomatch ha), (fun j a hj => by simp at hj)⟩
    exact ⟨hk _ _ (Ne.symm V.STI) hTI, D1.frame _ _ _ st1 fun b hb o e => hk b o (fun q => V.f1 (q ▸ hb)) e, D2.frame _ _ _ st2 fun b hb o e => hk b o (fun q => V.f2 (q ▸ hb)) e, .inl ⟨hk _ _ (Ne.symm V.Sz) hz, a, b, hk _ _ (Ne.symm V.STO) hTO⟩⟩
  unfold Builtin.List.listExtendWith
  refine wpAny_bind (wpAny_typeOf (T := "zip") ⟨_, hz, rfl⟩ ?_)
  have q1 : Builtin.List.listSameRef (.ref S) (.ref z) = false := by simp [Builtin.List.listSameRef, V.Sz]
  have q2 : (Value.type "zip" == Value.type "list") = false := by decide
  have q3 : (Value.type "zip" == Value.type "tuple") = false := by decide
  simp only [q1, q2, q3, Bool.or_false, Bool.false_eq_true, if_false]
  refine wpAny_bind (wpAny_pyIter_zip hz ?_)
  refine wpAny_bind (wpAny_holding (zl_hint ⟨_, hz, rfl⟩ ?_))
  refine wpAny_ite_split (fun _ => ?_) (fun hab => absurd (by simp) hab)
  refine wpAny_bind (wpAny_rule ?_)
  refine wpAny_bind ?_
  show wpAny _ _ (updateSeq S (·.push .none) >>= fun _ => updateSeq S (·.pop)) _ _ _
  refine wpAny_bind (wpAny_updateSeq hS rfl ?_)
  have hS2 := Heap.get?_update_self (Obj.mapSeq (·.push Value.none)) hS rfl
  refine wpAny_updateSeq (hz := by seq_fits) hS2 rfl ?_
  have hS3 := Heap.get?_update_self (Obj.mapSeq (·.pop)) hS2 rfl
  refine wpAny_pure ⟨plainId_quiet PySem.F.plain_extend_loop _, key _ _ _ (fun b o hb e => ?_) hS3⟩
  exact (Heap.get?_update_other _ _ (Ne.symm hb)).trans ((Heap.get?_update_other _ _ (Ne.symm hb)).trans e)
theorem zl_call {Q : Value → Shared → Prop} {a b : Value} (Z : ZipSep2 z TI TO i1 i2 fp1 fp2) (D1 : Draws prog w A.in1.in1.in1 i1 fp1 n P1 St1) (D2 : Draws prog w A.in1.in1.in1 i2 fp2 n P2 St2) (hfp1 : ∀ c ∈ fp1, c < s.heap.objs.size) (hfp2 : ∀ c ∈ fp2, c < s.heap.objs.size) (hn : n ≤ sizeLine)
    (hz : IsZip s.heap z TI TO .none) (hTI : IsTupOf2 s.heap TI (.ref i1) (.ref i2)) (hTO : IsTupOf2 s.heap TO a b) (st1 : St1 0 s.heap) (st2 : St2 0 s.heap)
    (hQ : ∀ h' tk acc c as, (∀ b o, b ≠ z → b ≠ TO → b ≠ i1 → b ≠ i2 → s.heap.get? b = some o → h'.get? b = some o) → h'.get? s.heap.objs.size = some { cls := .type "list", dict := none, data := .seq acc c, slots := #[] } → as.length = n → ZlG P1 P2 s.heap.objs.size h' as →
      acc.toList = as.map Value.ref → Q (.ref s.heap.objs.size) { s with heap := h', toks := tk }) :
    wpAny (model prog w) A (call (.type "list") [.ref z]) Q E s := by
  refine callType_codes (Q₁ := fun obj s₁ => obj = .ref s.heap.objs.size ∧ s₁ = { s with heap := s.heap.push { cls := .type "list", data := .seq #[] } }) PySem.F.called_list (PySem.F.typeCall_list_1 _) PySem.F.entry_list_init
    (code_list_new _ ⟨rfl, rfl⟩) fun obj s₁ h₁ => ?_
  obtain ⟨rfl, rfl⟩ := h₁
  have hS : (s.heap.push { cls := .type "list", data := .seq #[] }).get? s.heap.objs.size = some { cls := .type "list", data := .seq #[] } := Heap.get?_push_size _ rfl
  have lt : ∀ {c o}, s.heap.get? c = some o → c < s.heap.objs.size := fun e => Heap.lt_size e
  have V : ZlA z TI TO i1 i2 s.heap.objs.size fp1 fp2 := ⟨Nat.ne_of_gt (lt hz), Nat.ne_of_gt (lt hTI), Nat.ne_of_gt (lt hTO), Nat.ne_of_gt (hfp1 _ Z.mem1), Nat.ne_of_gt (hfp2 _ Z.mem2), fun q => Nat.lt_irrefl _ (hfp1 _ q), fun q => Nat.lt_irrefl _ (hfp2 _ q)⟩
  refine ⟨⟨_, hS, rfl⟩, PySem.F.args_list_init_2 _ _, ?_⟩
  show wpAny _ _ (do let old ← Builtin.List.listItems (.ref s.heap.objs.size); Builtin.List.listUpdate (.ref s.heap.objs.size) (fun _ => #[]); letGo old.toList.reverse; Builtin.List.listExtendWith (.ref s.heap.objs.size) (.ref z) .none) _ _ _
  refine wpAny_bind ?_
  unfold Builtin.List.listItems
  refine wpAny_bind (wpAny_seqItems hS rfl (wpAny_pure ?_))
  show wpAny _ _ (updateSeq s.heap.objs.size (fun _ => #[]) >>= fun _ => letGo (#[] : Array Value).toList.reverse >>= fun _ => Builtin.List.listExtendWith (.ref s.heap.objs.size) (.ref z) .none) _ _ _
  refine wpAny_bind (wpAny_updateSeq hS rfl ?_)
  have hS2 := Heap.get?_update_self (Obj.mapSeq (fun _ => (#[] : Array Value))) hS rfl
  have oth : ∀ b o, s.heap.get? b = some o → ((s.heap.push { cls := .type "list", data := .seq #[] }).update s.heap.objs.size (Obj.mapSeq (fun _ => (#[] : Array Value)))).get? b = some o :=
    fun b o e => (Heap.get?_update_other _ _ (Nat.ne_of_gt (lt e))).trans (Heap.get?_push_of_some _ e)
  refine wpAny_bind (wpAny_letGo ?_)
  refine zl_extend (a := a) (b := b) s.heap.objs.size Z V D1 D2 (lt hz) (lt hTO) (hfp1 _ Z.mem1) (hfp2 _ Z.mem2) hn (oth _ _ hz) (oth _ _ hTI) (oth _ _ hTO) (D1.frame _ _ _ st1 fun c _ o e => oth c o e) (D2.frame _ _ _ st2 fun c _ o e => oth c o e) .none _ hS2 (fun h' tk acc c as hk hS' hl hG hacc => ?_)
  exact ⟨rfl, hQ h' tk acc c as (fun b o b1 b2 b3 b4 e => hk b o (Nat.ne_of_lt (lt e)) b1 b2 b3 b4 (oth b o e)) hS' hl hG hacc⟩
end
end Bay
namespace Bay
open PySem PySem.Spec PyProof.Rows L2
open C8 (Cal pe_c Mak pe_mk)
/-- the pairs tracked at their addresses -/
def putP : Hp → List Addr → List (V × V) → Hp
  | H, a :: as, p :: ps => putP (upd H a (.tup [p.1, p.2])) as ps
  | H, _, _ => H
theorem putP_off {b : Addr} : ∀ (as : List Addr) (ps : List (V × V)) (H : Hp), b ∉ as → putP H as ps b = H b
  | [], _, _, _ => rfl
  | _ :: _, [], _, _ => rfl
  | a :: as, p :: ps, H, h => by
    show putP (upd H a (.tup [p.1, p.2])) as ps b = H b
    rw [putP_off as ps _ (fun z => h (List.mem_cons_of_mem _ z)), upd_ne (fun z => h (by rw [z]; exact List.mem_cons_self))]
theorem putP_at : ∀ (as : List Addr) (ps : List (V × V)) (H : Hp), as.length = ps.length → as.Nodup → ∀ (j : Nat) (a : Addr), as[j]? = some a → ∃ p, ps[j]? = some p ∧ putP H as ps a = some (.tup [p.1, p.2])
  | [], [], _, _, _, j, a, hj => by simp at hj
  | [], _ :: _, _, h, _, _, _, _ => by cases h
  | _ :: _, [], _, h, _, _, _, _ => by cases h
  | b :: as, p :: ps, H, h, hn, j, a, hj => by
    have hn' := List.nodup_cons.mp hn
    cases j with
    | zero =>
      have e : b = a := by simpa using hj
      subst e
      refine ⟨p, rfl, ?_⟩
      show putP (upd H b (.tup [p.1, p.2])) as ps b = _
      rw [putP_off as ps _ hn'.1, upd_same]
    | succ j =>
      have hj' : as[j]? = some a := by simpa using hj
      obtain ⟨q, e1, e2⟩ := putP_at as ps (upd H b (.tup [p.1, p.2])) (Nat.succ.inj h) hn'.2 j a hj'
      exact ⟨q, by simpa using e1, e2⟩
theorem vals_refs : ∀ as : List Addr, Vals (as.map V.ref) (as.map Value.ref)
  | [] => .nil
  | _ :: as => .cons rfl (vals_refs as)
section
variable {X : Cx}
theorem zl_laid {pins : List (Addr × Obj)} {σ : L2.St} {H : Hp} {s : Shared} {h' : Heap} {tk : Nat} {xs ys : List V} {us ws : List Value} {acc : Array Value} {c : Nat} {as : List Addr} {S : Addr} (I : Inv X pins σ H s) (hz : xs.length ≤ sizeLine) (rx : Vals xs us) (ry : Vals ys ws) (exy : xs.length = ys.length)
    (hk : ∀ b o, s.heap.get? b = some o → h'.get? b = some o) (hSs : s.heap.objs.size ≤ S) (hS : h'.get? S = some { cls := .type "list", dict := none, data := .seq acc c, slots := #[] }) (hl : as.length = xs.length)
    (hG : ZlG (fun i v => us.toArray[i]? = some v) (fun i v => ws.toArray[i]? = some v) S h' as) (hacc : acc.toList = as.map Value.ref) :
    ∃ H' : Hp, Same H H' ∧ H S = none ∧ H' S = some (.lst (as.map V.ref)) ∧ (∀ (j : Nat) (t : Addr), as[j]? = some t → ∃ x y, xs[j]? = some x ∧ ys[j]? = some y ∧ H' t = some (.tup [x, y])) ∧ Inv X pins σ H' { s with heap := h', toks := tk } := by
  have hSn : S ∉ as := fun z => Nat.lt_irrefl _ (hG.above _ z)
  have nd : as.Nodup := List.Pairwise.imp (fun {a b} (h : a < b) => Nat.ne_of_lt h) hG.rise
  have new : ∀ t ∈ as, H t = none := fun t ht => I.hok.fresh (Nat.le_trans hSs (Nat.le_of_lt (hG.above t ht)))
  have newS : H S = none := I.hok.fresh hSs
  have lz : (xs.zip ys).length = as.length := by rw [List.length_zip]; omega
  have atP := putP_at as (xs.zip ys) (upd H S (.lst (as.map V.ref))) lz.symm nd
  have off : ∀ b, b ∉ as → b ≠ S → putP (upd H S (.lst (as.map V.ref))) as (xs.zip ys) b = H b := fun b q1 q2 => by rw [putP_off as _ _ q1, upd_ne q2]
  have low : ∀ b o, s.heap.get? b = some o → b ∉ as ∧ b ≠ S := fun b o e => ⟨fun z => absurd (Nat.lt_of_lt_of_le (Heap.lt_size e) hSs) (Nat.not_lt.mpr (Nat.le_of_lt (hG.above b z))), Nat.ne_of_lt (Nat.lt_of_lt_of_le (Heap.lt_size e) hSs)⟩
  have kp : Same H (putP (upd H S (.lst (as.map V.ref))) as (xs.zip ys)) := fun b u e => by
    rw [off b (fun z => by rw [new b z] at e; cases e) (fun z => by rw [z, newS] at e; cases e)]
    exact e
  have eS : putP (upd H S (.lst (as.map V.ref))) as (xs.zip ys) S = some (.lst (as.map V.ref)) := by rw [putP_off as _ _ hSn, upd_same]
  have zipAt : ∀ (j : Nat) (p : V × V), (xs.zip ys)[j]? = some p → xs[j]? = some p.1 ∧ ys[j]? = some p.2 := fun j p e => by
    rw [List.getElem?_zip_eq_some] at e
    exact e
  refine ⟨putP (upd H S (.lst (as.map V.ref))) as (xs.zip ys), kp, newS, eS, fun j t hj => ?_, ?_⟩
  · obtain ⟨p, e1, e2⟩ := atP j t hj
    exact ⟨p.1, p.2, (zipAt j p e1).1, (zipAt j p e1).2, e2⟩
  refine I.call' (ch := []) rfl ⟨fun b o q _ _ _ => hk b o q, fun b o q _ _ _ => ⟨o.slots, hk b o q⟩, fun b o q n _ => ?_, fun b o q _ => ⟨o, hk b o q⟩, fun b xs q => kp b _ q, fun b o u q => kp b _ q, fun b ps q => ⟨#[], by rw [kp b _ q]; simp⟩⟩ (fun b u q => ?_) I.bare fun b z => by simp at z
  · obtain ⟨z1, z2⟩ := low b o q
    rw [off b z1 z2]
    exact n
  · by_cases hb : b ∈ as
    · obtain ⟨j, hj⟩ := List.mem_iff_getElem?.mp hb
      obtain ⟨p, e1, e3⟩ := atP j b hj
      rw [e3] at q
      cases q
      obtain ⟨x1, x2, f1, f2, f3⟩ := hG.pairs j b hj
      obtain ⟨u1, g1, r1⟩ := rx.get (zipAt j p e1).1
      obtain ⟨u2, g2, r2⟩ := ry.get (zipAt j p e1).2
      rw [List.getElem?_toArray] at f1 f2
      rw [g1] at f1
      rw [g2] at f2
      cases f1
      cases f2
      exact ⟨by show 2 ≤ sizeLine; decide, [x1, x2], .cons r1 (.cons r2 .nil), ⟨_, f3, rfl, _, rfl⟩⟩
    · by_cases hb2 : b = S
      · rw [hb2] at q ⊢
        rw [eS] at q
        cases q
        refine ⟨by rw [List.length_map]; omega, acc.toList, c, by rw [hacc]; exact vals_refs as, ?_⟩
        rw [Array.toArray_toList]
        exact hS
      · rw [off b hb hb2] at q
        exact (I.hok b u q).stay (fun d v _ y => hk d v y) (fun d y => kp d _ y) fun d xs y => kp d _ y
/-- the lists or tuples that are zipped -/
def tListZip (K : PySem.W.Frag) (t : TA) : TE := fun σ H Q => t σ H fun vs H1 => ∃ (a b : Addr) (xs ys : List V), vs = [.ref a, .ref b] ∧ (SqL K H1 a xs ∨ SqT K H1 a xs) ∧ (SqL K H1 b ys ∨ SqT K H1 b ys) ∧ xs.length = ys.length ∧
  ∀ (H' : Hp) (p : Addr) (ts : List Addr), Same H1 H' → H1 p = none → H' p = some (.lst (ts.map V.ref)) → ts.length = xs.length → (∀ (j : Nat) (t : Addr), ts[j]? = some t → ∃ x y, xs[j]? = some x ∧ ys[j]? = some y ∧ H' t = some (.tup [x, y])) → Q (.ref p) H'
theorem begins_of {pins : List (Addr × Obj)} {σ : L2.St} {H : Hp} {s : Shared} {a : Addr} {xs : List V} (I : Inv X pins σ H s) (h : SqL X.K H a xs ∨ SqT X.K H a xs) :
    ∃ (us : List Value) (o : Obj) (G : Heap → Prop) (fp : List Addr), Vals xs us ∧ xs.length ≤ sizeLine ∧ Begins (.ref a) o G ∧ G s.heap ∧ (∀ c ∈ fp, c < s.heap.objs.size) ∧
      ∀ (A : Around) (it : Addr), A.handled = none → s.heap.objs.size ≤ it → ∃ St : Nat → Heap → Prop, Draws X.prog X.w A it (it :: fp) us.length (fun i v => us.toArray[i]? = some v) St ∧ ∀ h : Heap, (∀ b o, s.heap.get? b = some o → h.get? b = some o) → h.get? it = some o → St 0 h := by
  rcases h with h | h
  · obtain ⟨us, rv, hl, hz⟩ := I.list h
    have hlt : a < s.heap.objs.size := by obtain ⟨o, ho, _⟩ := hl.isList; exact Heap.lt_size ho
    refine ⟨us, _, _, [a], rv, hz, begins_list a us.toArray, hl.isList, fun c hc => by rw [List.mem_singleton.mp hc]; exact hlt, fun A it hA hit => ?_⟩
    have := Draws.list (prog := X.prog) (w := X.w) (A := A) hA it a (Nat.ne_of_lt (Nat.lt_of_lt_of_le hlt hit)) us.toArray
    rw [List.size_toArray] at this
    refine ⟨_, this, fun h hk ho => ⟨⟨_, ho, rfl, rfl⟩, hl.isList.at fun o e => hk _ o e⟩⟩
  · obtain ⟨us, rv, hl0, hz⟩ := I.tuple h
    have hl : s.heap.IsTuple a us.toArray := hl0
    have hlt : a < s.heap.objs.size := by obtain ⟨o, ho, _⟩ := hl; exact Heap.lt_size ho
    refine ⟨us, _, _, [a], rv, hz, begins_tuple a us.toArray, hl, fun c hc => by rw [List.mem_singleton.mp hc]; exact hlt, fun A it hA hit => ?_⟩
    have := Draws.tuple (prog := X.prog) (w := X.w) (A := A) hA it a (Nat.ne_of_lt (Nat.lt_of_lt_of_le hlt hit)) us.toArray
    rw [List.size_toArray] at this
    refine ⟨_, this, fun h hk ho => ⟨⟨_, ho, rfl, rfl⟩, hl.at fun o e => hk _ o e⟩⟩
variable {p p2 pos pos2 : Pos} {e1 e2 : Expr} {ta : TA}
/-- list(zip(x, y)) -/
theorem pe_listZip (hc : X.calm = true) (ha : PA X [e1, e2] ta) (hg : Gl X "list") (hm : X.mg "list" = none) (hg2 : Gl X "zip") (hm2 : X.mg "zip" = none) (hv : bootBuiltins "list" = some (.type "list") := by decide +kernel) (hv2 : bootBuiltins "zip" = some (.type "zip") := by decide +kernel)
    (hs : starEach [.Call (.Name "zip" p2) [e1, e2] [] pos2] X.env = (false, eval (.Call (.Name "zip" p2) [e1, e2] [] pos2) X.env) :: starEach [] X.env := by rfl)
    (hs2 : starEach [e1, e2] X.env = (false, eval e1 X.env) :: starEach [e2] X.env := by rfl) (hpl : (backTo pos2 (starEach [e2] X.env)).any (·.1) = false := by rfl) :
    PE X (.Call (.Name "list" p) [.Call (.Name "zip" p2) [e1, e2] [] pos2] [] pos) (tListZip X.K ta) := by
  refine ⟨fun pins s σ H Q I hq => ?_⟩
  refine wpAny_Call_Name_kw (ld_blt I hg hm hv ?_)
  refine PyProof.Rows.callWith_type1 ?_ hs rfl
  rw [hs]
  show wpAny _ _ (spliced ((false, eval (.Call (.Name "zip" p2) [e1, e2] [] pos2) X.env) :: backTo pos (starEach [] X.env))) _ _ s
  refine Calls.spliced_cons ?_
  refine wpAny_Call_Name_kw (ld_blt I hg2 hm2 hv2 ?_)
  refine PyProof.Rows.callWith_type1 (thn (ha.run pos2 pins s σ H _ I hq) fun us s1 ⟨vs, H1, I1, r1, a, b, xs, ys, ev, ha1, hb1, exy, q⟩ => ?_) hs2 hpl
  subst ev
  obtain ⟨u1, u2, rfl, e1', e2'⟩ := vals2 r1
  cases (show u1 = Value.ref a from e1')
  cases (show u2 = Value.ref b from e2')
  obtain ⟨us1, o1, G1, fp1, rx, hz1, B1, hG1, hf1, hD1⟩ := begins_of I1 ha1
  obtain ⟨us2, o2, G2, fp2, ry, hz2, B2, hG2, hf2, hD2⟩ := begins_of I1 hb1
  refine zip_begins2 B1 B2 hG1 hG2 fun h' hz hTI hTO ho1 ho2 hsz hk => ?_
  refine Calls.spliced_nil ?_
  have hh := I1.ok.hd hc
  obtain ⟨St1, D1, g1⟩ := hD1 X.A.in1.in1.in1 s1.heap.objs.size hh (Nat.le_refl _)
  obtain ⟨St2, D2, g2⟩ := hD2 X.A.in1.in1.in1 (s1.heap.objs.size + 1) hh (Nat.le_succ _)
  have el1 : us1.length = xs.length := rx.length.symm
  have el2 : us2.length = xs.length := ry.length.symm.trans exy.symm
  rw [el1] at D1
  rw [el2] at D2
  have lt5 : s1.heap.objs.size + 5 = h'.objs.size := hsz.symm
  refine zl_call (s := { s1 with heap := h' }) (zip_sep2 hf1 hf2) D1 D2 ?_ ?_ hz1 hz hTI hTO (g1 h' hk ho1) (g2 h' hk ho2) fun h2 tk acc c as hk2 hS hl hG hacc => ?_
  · intro c hc
    show c < h'.objs.size
    rw [hsz]
    rcases List.mem_cons.mp hc with k | k
    · rw [k]; exact Nat.lt_add_of_pos_right (by decide)
    · exact Nat.lt_of_lt_of_le (hf1 c k) (Nat.le_add_right _ _)
  · intro c hc
    show c < h'.objs.size
    rw [hsz]
    rcases List.mem_cons.mp hc with k | k
    · rw [k]; exact Nat.add_lt_add_left (by decide) _
    · exact Nat.lt_of_lt_of_le (hf2 c k) (Nat.le_add_right _ _)
  · dsimp only at hk2 hS hG ⊢
    have old : ∀ b o, s1.heap.get? b = some o → h2.get? b = some o := fun b o e => by
      have lb := Heap.lt_size e
      exact hk2 b o (Nat.ne_of_lt (Nat.lt_of_lt_of_le lb (Nat.le_add_right _ _))) (Nat.ne_of_lt (Nat.lt_of_lt_of_le lb (Nat.le_add_right _ _))) (Nat.ne_of_lt lb) (Nat.ne_of_lt (Nat.lt_of_lt_of_le lb (Nat.le_add_right _ _))) (hk b o e)
    obtain ⟨H', k1, k2, k3, k4, J⟩ := zl_laid (tk := tk) I1 hz1 rx ry exy old (S := h'.objs.size) (by rw [hsz]; exact Nat.le_add_right _ _) hS hl hG hacc
    exact ⟨.ref _, H', J, rfl, q H' _ as k1 k2 k3 hl k4⟩
end
end Bay
namespace Bay
open PySem PySem.Spec PyProof.Rows L2
open C8 (Cal pe_c Mak pe_mk)
/-! ## sorted of a tuple of two ints -/
section
variable {prog : Program} {w : World} {A : Around} {E : Value → Shared → Prop} {s : Shared}
theorem collect_tup {t : Addr} {vs : List Value} {Q : List Value → Shared → Prop} (ht : s.heap.IsTuple t vs.toArray)
    (h : Q vs { s with heap := (s.heap.push (seqObj "list" #[] 0)).update s.heap.objs.size (Obj.mapSeq (· ++ vs.toArray)) }) (hsz : vs.length ≤ sizeLine := by size_fits) : wpAny (model prog w) A (collect (.ref t)) Q E s := by
  obtain ⟨o, ho, hc, n, hd⟩ := id ht
  unfold collect
  refine wpAny_bind (wpAny_runValue (codeAny_builtin entry_proto_collect' ?_))
  show wpAny _ _ (do again (.builtin "list.__iadd__" ⟨[← newList [], .ref t], []⟩)) _ _ s
  refine wpAny_bind (wpAny_newList (wpAny_pure ⟨Code.quiet_builtin _ (by decide +kernel), codeAny_builtin entry_list_iadd' ?_⟩))
  show wpAny _ _ (Builtin.List.listExtendWith (.ref s.heap.objs.size) (.ref t) (.ref s.heap.objs.size)) _ _ { s with heap := s.heap.push (seqObj "list" #[] 0) }
  unfold Builtin.List.listExtendWith
  have ho' : (s.heap.push (seqObj "list" #[] 0)).get? t = some o := Heap.get?_push_of_some _ ho
  refine wpAny_bind (wpAny_typeOf (T := "tuple") ⟨o, ho', hc⟩ ?_)
  have hq : (Value.type "tuple" == Value.type "tuple") = true := by rfl
  rw [if_pos (by rw [hq]; simp)]
  refine wpAny_bind (listItems_at ho' hd ?_)
  refine wpAny_bind (listItems_at (xs := #[]) (n := 0) (Heap.get?_push_size _ rfl) rfl ?_)
  rw [if_neg (by simp)]
  refine wpAny_bind (listUpdate_at (xs := #[]) (n := 0) (Heap.get?_push_size _ rfl) rfl ?_ (Nat.zero_le _) (by show (#[] ++ vs.toArray).size ≤ sizeLine + 1; simp only [Array.size_append, List.size_toArray, List.length_nil]; omega))
  refine wpAny_pure ?_
  show wpAny (model prog w) A (do
      let o ← load s.heap.objs.size
      match o.data with
      | .seq xs _ => pure xs.toList
      | _ => unsupported "internal:collect") Q E { s with heap := (s.heap.push (seqObj "list" #[] 0)).update s.heap.objs.size (Obj.mapSeq (· ++ vs.toArray)) }
  refine wpAny_bind (wpAny_load (get?_update_seq (Heap.get?_push_size _ rfl) _) ?_)
  show wpAny _ _ (pure ((#[] : Array Value) ++ vs.toArray).toList) Q E _
  rw [show ((#[] : Array Value) ++ vs.toArray).toList = vs by simp]
  exact wpAny_pure h
theorem sorted_tupI {t : Addr} {vs : List Value} {ns : List Int} {Q : Value → Shared → Prop} (ht : s.heap.IsTuple t vs.toArray) (hI : IntsAre vs ns) (h64 : vs.length < 64)
    (h : ∀ (out : Array Value) (ns' : List Int), IntsAre out.toList ns' → ns'.Perm ns → ns'.Pairwise (· ≤ ·) → Q (.ref (s.heap.objs.size + 1)) { s with heap := sortedAll s.heap vs out }) :
    wpAny (model prog w) A (call (.builtin "sorted") [.ref t]) Q E s := by
  refine Calls.call_function_entry kind_sorted plain_sorted entry_sorted (args_sorted1 _) ?_
  unfold Builtin.«sorted»
  refine wpAny_bind (m := checkCount "sorted" 1 1 _) (wpAny_pure ?_)
  refine wpAny_bind (collect_tup ht ?_ (small64 h64))
  refine wpAny_bind (wpAny_newList ?_)
  have hsz : ((s.heap.push (seqObj "list" #[] 0)).update s.heap.objs.size (Obj.mapSeq (· ++ vs.toArray))).objs.size = s.heap.objs.size + 1 := by
    rw [Heap.size_update, Heap.size_push]
  have hoL : (((s.heap.push (seqObj "list" #[] 0)).update s.heap.objs.size (Obj.mapSeq (· ++ vs.toArray))).push (seqObj "list" vs.toArray 0)).get? (s.heap.objs.size + 1) = some (seqObj "list" vs.toArray 0) := by
    rw [← hsz]; exact Heap.get?_push_size _ rfl
  show wpAny _ _ _ _ _ { s with heap := ((s.heap.push (seqObj "list" #[] 0)).update s.heap.objs.size (Obj.mapSeq (· ++ vs.toArray))).push (seqObj "list" vs.toArray 0) }
  rw [hsz]
  refine wpAny_bind (wpAny_holding (wpAny_call_entry slot_list_sort ⟨_, hoL, rfl⟩ entry_list_sort (list_sort_tree hoL hI h64 fun out ns' a1 a2 a3 => ⟨_, rfl, ?_⟩) (args_list_sort _)))
  exact wpAny_pure ⟨_, rfl, h out ns' a1 a2 a3⟩
end
def rSort2 (K : PySem.W.Frag) : List V → Hp → VK → Prop := fun vs H Q => ∃ (a : Addr) (i j : Int), vs = [V.ref a] ∧ SqT K H a [V.int i, V.int j] ∧ ∀ p, H p = none → Q (.ref p) (upd H p (.lst [V.int (mn i j), V.int (mx i j)]))
theorem pair_sorted {i j : Int} {ns : List Int} (hp : ns.Perm [i, j]) (hs : ns.Pairwise (· ≤ ·)) : ns = [mn i j, mx i j] := by
  have hl := hp.length_eq
  match ns, hl with
  | [a, b], _ =>
    have hab : a ≤ b := (List.pairwise_cons.mp hs).1 b (List.mem_cons_self ..)
    have ha : a = i ∨ a = j := by simpa using hp.subset (List.mem_cons_self ..)
    have hsum : a + b = i + j := by
      have := tsum_perm (fun x : Int => x) hp
      simpa [tsum] using this
    unfold mn mx
    have e1 : a = if j < i then j else i := by split <;> omega
    have e2 : b = if j > i then j else i := by split <;> omega
    rw [← e1, ← e2]
section
variable {X : Cx}
theorem cr_sort2 : CallR X (.builtin "sorted") (rSort2 X.K) := by
  intro pins s σ H vs us Q I r h
  obtain ⟨a, i, j, rfl, hs, q⟩ := h
  obtain ⟨its, rv, hl, _⟩ := I.tuple hs
  rw [Vals.ref1 r]
  have hi : IntsAre its [i, j] := Vals.ints (ns := [i, j]) rv
  refine sorted_tupI hl hi (by rw [hi.length]; show 2 < 64; decide) fun out ns' b1 b2 b3 => ?_
  obtain ⟨ep, he'⟩ := PyProof.Rows.sortedAll_at s.heap its out
  have e := pair_sorted b2 b3
  subst e
  exact ⟨.ref _, upd H (s.heap.objs.size + 1) (.lst ([mn i j, mx i j].map V.int)), I.laid (t' := s.toks) (fun _ _ => PyProof.Rows.sortedAll_old) (Nat.le_succ _) ⟨by show 2 ≤ sizeLine; decide, out.toList, ep, vals_of_ints b1, he'⟩, rfl, q _ (I.hok.fresh (Nat.le_succ _))⟩
end
end Bay
namespace Bay
open PySem PySem.Spec PyProof.Rows L2
open C8 (Cal pe_c Mak pe_mk)
/-! ## zip and enumerate over lists and tuples alike -/
def Sq (b : Bool) (K : PySem.W.Frag) (H : Hp) (a : Addr) (xs : List V) : Prop := match b with | true => SqT K H a xs | false => SqL K H a xs
/-- where the iterator of such a thing stands -/
def Cur (b : Bool) (h : Heap) (it a : Addr) (i : Nat) : Prop := match b with | true => h.IsTupleIter it a i | false => h.IsListIter it a i
theorem Cur.ob {b : Bool} {h : Heap} {it a : Addr} {i : Nat} (c : Cur b h it a i) : ∃ o, h.get? it = some o ∧ ∀ v, o.data ≠ .cell v := by
  cases b
  all_goals
    obtain ⟨o, ho, _, hd⟩ := c
    exact ⟨o, ho, fun v q => by rw [hd] at q; cases q⟩
theorem Cur.keep {b : Bool} {h h' : Heap} {it a : Addr} {i : Nat} (c : Cur b h it a i) (k : ∀ o, h.get? it = some o → h'.get? it = some o) : Cur b h' it a i := by
  cases b
  · exact Heap.IsListIter.at c k
  · exact Heap.IsTupleIter.at c k
section
variable {X : Cx} {pins : List (Addr × Obj)} {σ : L2.St} {H : Hp} {s : Shared} {b : Bool} {a : Addr} {xs ys : List V}
theorem Sq.inj (I : Inv X pins σ H s) (h : Sq b X.K H a xs) (h' : Sq b X.K H a ys) : xs = ys := by
  cases b
  · exact I.list_inj h h'
  · exact I.tuple_inj h h'
theorem Sq.draw (I : Inv X pins σ H s) (h : Sq b X.K H a xs) {it : Addr} (ne : a ≠ it) {A : Around} (hA : A.handled = none) :
    ∃ (us : List Value) (St : Nat → Heap → Prop), Vals xs us ∧ Draws X.prog X.w A it [it, a] us.length (fun i v => us[i]? = some v) St ∧ (∀ i, Cur b s.heap it a i → St i s.heap) ∧ ∀ i h, St i h → Cur b h it a i := by
  cases b
  · obtain ⟨us, rv, hl, _⟩ := I.list h
    have D := Draws.list (prog := X.prog) (w := X.w) (A := A) hA it a ne us.toArray
    simp only [List.size_toArray, List.getElem?_toArray] at D
    exact ⟨us, _, rv, D, fun i c => ⟨c, hl.isList⟩, fun i h k => k.1⟩
  · obtain ⟨us, rv, hl, _⟩ := I.tuple h
    have D := Draws.tuple (prog := X.prog) (w := X.w) (A := A) hA it a ne us.toArray
    simp only [List.size_toArray, List.getElem?_toArray] at D
    exact ⟨us, _, rv, D, fun i c => ⟨c, hl⟩, fun i h k => k.1⟩
theorem Sq.begin (I : Inv X pins σ H s) (h : Sq b X.K H a xs) : ∃ (o : Obj) (G : Heap → Prop), a < s.heap.objs.size ∧ Begins (.ref a) o G ∧ G s.heap ∧ ∀ (h : Heap) (it : Addr), h.get? it = some o → Cur b h it a 0 := by
  cases b
  · obtain ⟨us, rv, hl, _⟩ := I.list h
    have hlt : a < s.heap.objs.size := by obtain ⟨o, ho, _⟩ := hl.isList; exact Heap.lt_size ho
    exact ⟨_, _, hlt, begins_list a us.toArray, hl.isList, fun h it e => ⟨_, e, rfl, rfl⟩⟩
  · obtain ⟨us, rv, hl, _⟩ := I.tuple h
    have hl : s.heap.IsTuple a us.toArray := hl
    have hlt : a < s.heap.objs.size := by obtain ⟨o, ho, _⟩ := id hl; exact Heap.lt_size ho
    exact ⟨_, _, hlt, begins_tuple a us.toArray, hl, fun h it e => ⟨_, e, rfl, rfl⟩⟩
end
def ItzM (K : PySem.W.Frag) (b1 b2 : Bool) (a b : Addr) : It where
  go := fun i H => ∃ (xs ys : List V) (x y : V), Sq b1 K H a xs ∧ Sq b2 K H b ys ∧ xs[i]? = some x ∧ ys[i]? = some y
  yld := fun i H v H' => ∃ T x y, v = .ref T ∧ H T = none ∧ H' = upd H T (.tup [x, y]) ∧ (∀ xs, Sq b1 K H a xs → xs[i]? = some x) ∧ ∀ ys, Sq b2 K H b ys → ys[i]? = some y
  stop := fun i H => ∃ xs ys : List V, Sq b1 K H a xs ∧ Sq b2 K H b ys ∧ xs.length = i ∧ ys.length = i
theorem turn_zipM {P : Program} {w : World} {K : PySem.W.Frag} {elts : List Expr} {kk : Nat} {tpos : Pos} {b1 b2 : Bool} {a b z TI TO i1 i2 : Addr} (S : ZipSep2 z TI TO i1 i2 [i1, a] [i2, b]) (n1 : a ≠ i1) (n2 : b ≠ i2) :
    Turn P w K (.Tuple elts kk tpos) (ItzM K b1 b2 a b) [z, TI, TO, i1, i2] z (fun i h => IsZip h z TI TO .none ∧ IsTupOf2 h TI (.ref i1) (.ref i2) ∧ (∃ x y, IsTupOf2 h TO x y) ∧ Cur b1 h i1 a i ∧ Cur b2 h i2 b i) := by
  refine ⟨by simp, fun i h st c hc => ?_, fun i h h' st k => ?_, ?_, ?_, fun A i s Q E st h => wpAny_pyIter_zip st.1 h⟩
  · obtain ⟨hz, hTI, ⟨x, y, hTO⟩, c1, c2⟩ := st
    simp only [List.mem_cons, List.not_mem_nil, or_false] at hc
    rcases hc with q | q | q | q | q
    · subst q; exact ⟨_, hz, fun v q => nomatch q⟩
    · subst q; exact ⟨_, hTI, fun v q => nomatch q⟩
    · subst q; exact ⟨_, hTO, fun v q => nomatch q⟩
    · subst q; exact c1.ob
    · subst q; exact c2.ob
  · obtain ⟨hz, hTI, ⟨x, y, hTO⟩, c1, c2⟩ := st
    exact ⟨k z (by simp) _ hz, k TI (by simp) _ hTI, ⟨x, y, k TO (by simp) _ hTO⟩, c1.keep fun o q => k i1 (by simp) o q, c2.keep fun o q => k i2 (by simp) o q⟩
  · intro X hP hw hK hc i pins s σ H E I hf st hg
    subst hP hw hK
    obtain ⟨hz, hTI, ⟨x0, y0, hTO⟩, c1, c2⟩ := st
    obtain ⟨xs, ys, x, y, hqx, hqy, hx, hy⟩ := hg
    have hh := I.ok.hd hc
    obtain ⟨us, S1, rv, D1, f1, g1⟩ := hqx.draw I n1 (A := X.A.in1) hh
    obtain ⟨ws, S2, rw', D2, f2, g2⟩ := hqy.draw I n2 (A := X.A.in1) hh
    obtain ⟨u, hu, ru⟩ := rv.get hx
    obtain ⟨u2, hu2, ru2⟩ := rw'.get hy
    have l1 := (List.getElem?_eq_some_iff.mp hu).1
    have l2 := (List.getElem?_eq_some_iff.mp hu2).1
    have zl : z < s.heap.objs.size := Heap.lt_size hz
    refine wpAny_pyNext_zipD2_item S D1 D2 hz hTI hTO (f1 _ c1) (f2 _ c2) l1 l2 fun x1 x2 h' tk p1 p2 z' TO' s1 s2 hT hsz hk => ?_
    rw [hu] at p1
    rw [hu2] at p2
    cases p1
    cases p2
    refine ⟨_, rfl, wpAny_letOwnedTupleGo_zip (s := { s with heap := h', toks := tk }) z' fun h2 z2 sb => ?_⟩
    have keep : ∀ c o, c ∉ [z, TI, TO, i1, i2] → s.heap.get? c = some o → h2.get? c = some o := fun c o hb q => by
      simp only [List.mem_cons, List.not_mem_nil, or_false, not_or] at hb
      exact (sb.2 c hb.1).trans (hk c o hb.1 hb.2.2.1 hb.2.2.2.1 hb.2.2.2.2 q)
    have hT2 : h2.get? s.heap.objs.size = some { cls := .type "tuple", data := .seq #[u, u2] } := (sb.2 _ (Nat.ne_of_gt zl)).trans hT
    have new : ObjOk X.prog X.w (upd H s.heap.objs.size (.tup [x, y])) h2 s.heap.objs.size (.tup [x, y]) := by
      refine ⟨?_, [u, u2], Paired.cons ru (Paired.cons ru2 .nil), _, hT2, rfl, _, rfl⟩
      exact (by decide : 2 ≤ sizeLine)
    have J : Inv X pins σ (upd H s.heap.objs.size (.tup [x, y])) { s with heap := h2, toks := tk } := I.turnedNew (t' := tk) keep hf (Nat.le_refl _) new
    refine ⟨.ref s.heap.objs.size, _, J, rfl, ⟨_, x, y, rfl, I.hok.fresh (Nat.le_refl _), rfl, fun l hl => (Sq.inj I hl hqx).symm ▸ hx, fun l hl => (Sq.inj I hl hqy).symm ▸ hy⟩, ⟨z2, ?_, ⟨u, u2, ?_⟩, ?_, ?_⟩, fun c hcm => ?_⟩
    · exact (sb.2 _ S.TIz).trans (hk _ _ S.TIz S.TITO S.TIi1 S.TIi2 hTI)
    · exact (sb.2 _ S.TOz).trans TO'
    · exact (g1 _ _ s1).keep fun o q => (sb.2 _ (Ne.symm S.zi1)).trans q
    · exact (g2 _ _ s2).keep fun o q => (sb.2 _ (Ne.symm S.zi2)).trans q
    · have hlt : c < s.heap.objs.size := by
        simp only [List.mem_cons, List.not_mem_nil, or_false] at hcm
        rcases hcm with q | q | q | q | q
        · rw [q]; exact zl
        · rw [q]; exact Heap.lt_size hTI
        · rw [q]; exact Heap.lt_size hTO
        · rw [q]; obtain ⟨_, e, _⟩ := c1.ob; exact Heap.lt_size e
        · rw [q]; obtain ⟨_, e, _⟩ := c2.ob; exact Heap.lt_size e
      rw [upd_ne (Nat.ne_of_lt hlt)]
      exact (hf c hcm).1
  · intro X hP hw hK hc i pins s σ H E I hf st hg
    subst hP hw hK
    obtain ⟨hz, hTI, ⟨x0, y0, hTO⟩, c1, c2⟩ := st
    obtain ⟨xs, ys, hqx, hqy, e1, e2⟩ := hg
    have hh := I.ok.hd hc
    obtain ⟨us, S1, rv, D1, f1, g1⟩ := hqx.draw I n1 (A := X.A.in1) hh
    obtain ⟨ws, S2, rw', D2, f2, g2⟩ := hqy.draw I n2 (A := X.A.in1) hh
    have l1 := rv.length
    have l2 := rw'.length
    refine wpAny_pyNext_zipD2_end S D1 D2 hz hTI hTO (f1 _ c1) (f2 _ c2) (by omega) (by omega) (.inl (by omega)) fun h' tk hk => ⟨rfl, ?_⟩
    refine I.turnedL (t' := tk) (ch := [z, TI, TO, i1, i2]) (fun c o hb q => ?_) hf
    simp only [List.mem_cons, List.not_mem_nil, or_false, not_or] at hb
    exact hk c o hb.1 hb.2.2.1 hb.2.2.2.1 hb.2.2.2.2 q
def tiZipM (K : PySem.W.Frag) (b1 b2 : Bool) (ta : TA) : TI := fun σ H R => ta σ H fun vs H1 => ∃ a b xs ys, vs = [.ref a, .ref b] ∧ Sq b1 K H1 a xs ∧ Sq b2 K H1 b ys ∧ R (ItzM K b1 b2 a b) H1
theorem pi_zipM {X : Cx} (b1 b2 : Bool) {e e2 : Expr} {ta : TA} {p pos tpos : Pos} {elts : List Expr} {kk : Nat} (hg : Gl X "zip") (hm : X.mg "zip" = none) (ha : PA X [e, e2] ta)
    (hs : starEach [e, e2] X.env = (false, eval e X.env) :: starEach [e2] X.env := by rfl) (hpl : (backTo pos (starEach [e2] X.env)).any (·.1) = false := by rfl) :
    PI X (.Tuple elts kk tpos) (.Call (.Name "zip" p) [e, e2] [] pos) (tiZipM X.K b1 b2 ta) := by
  refine ⟨fun pins s σ H R I h => Call_ (ld_blt I hg hm PyProof.Rows.boot_zip (PyProof.Rows.callWith_type1 (thn (ha.run pos pins s σ H _ I h) fun us s1 ⟨vs, H1, I1, r1, a, b, xs, ys, ev, qa, qb, q⟩ => ?_) hs hpl))⟩
  subst ev
  obtain ⟨u1, u2, rfl, r1, r2⟩ := vals2 r1
  cases (show u1 = Value.ref a from r1)
  cases (show u2 = Value.ref b from r2)
  obtain ⟨o1, G1, la, B1, h1, c1⟩ := qa.begin I1
  obtain ⟨o2, G2, lb, B2, h2, c2⟩ := qb.begin I1
  refine zip_begins2 B1 B2 h1 h2 fun h' hz hTI hTO ho1 ho2 hsz hk => wpAny_pyIter_zip hz ?_
  have J : Inv X pins σ H1 { s1 with heap := h' } := I1.kept (t' := s1.toks) hk
  have S := zip_sep2 (N := s1.heap.objs.size) (fp1 := [a]) (fp2 := [b]) (fun c hc => by rw [List.mem_singleton.mp hc]; exact la) (fun c hc => by rw [List.mem_singleton.mp hc]; exact lb)
  refine ⟨_, _, _, _, H1, rfl, J, turn_zipM S (Nat.ne_of_lt la) (Nat.ne_of_lt (Nat.lt_succ_of_lt lb)), ⟨hz, hTI, ⟨_, _, hTO⟩, c1 _ _ ho1, c2 _ _ ho2⟩, fun c hc => ?_, q⟩
  have hle : s1.heap.objs.size ≤ c := by
    simp only [List.mem_cons, List.not_mem_nil, or_false] at hc
    rcases hc with z | z | z | z | z
    all_goals
      rw [z]
      first
        | exact Nat.le_refl _
        | exact Nat.le_add_right _ _
  exact I1.fpOk hle (I1.hok.fresh hle)
theorem walk_zipM {K : PySem.W.Frag} {b1 b2 : Bool} {a b : Addr} {xs ys : List V} (e : xs.length = ys.length) : Walk (ItzM K b1 b2 a b) xs.length (fun H => Sq b1 K H a xs ∧ Sq b2 K H b ys) (YPair (fun i => xs[i]?) (fun i => ys[i]?)) := by
  refine ⟨fun i H hi q => ⟨xs, ys, xs[i], ys[i]'(e ▸ hi), q.1, q.2, by simp [hi], by simp [e ▸ hi]⟩, fun H q => ⟨xs, ys, q.1, q.2, rfl, e.symm⟩, fun i H v H' _ q y => ?_⟩
  obtain ⟨T, x, z, h1, h2, h3, h4, h5⟩ := y
  exact ⟨T, x, z, h1, h2, h3, h4 xs q.1, h5 ys q.2⟩
end Bay
namespace Bay
open PySem PySem.Spec PyProof.Rows L2
open C8 (Cal pe_c Mak pe_mk)
section
variable {prog : Program} {w : World} {A : Around} {E : Value → Shared → Prop} {s : Shared}
theorem enum_new {v : Value} {o : Obj} {G : Heap → Prop} (B : Begins v o G) :
    Meets (Builtin.«enumerate.__new__» ⟨[.type "enumerate", v], []⟩) (fun _ R s => G s.heap ∧
      R (.ok (.ret (.ref (s.heap.push o).objs.size))) { s with heap := (s.heap.push o).push { cls := .type "enumerate", data := .fields #[.none, .bool false, .ref s.heap.objs.size, rawInt 0, .none, .none] } }) := by
  refine .of_wp fun prog w A R s hh => ?_
  obtain ⟨hp, g, d, tk, os⟩ := s
  obtain ⟨h1, hR⟩ := hh
  have hsub := sub_enumerate
  have it1 : ∀ {A' : Around} {E : Value → Shared → Prop} {Q : Value → Shared → Prop}, Q (.ref hp.objs.size) ⟨hp.push o, g, d, tk, os⟩ → wpAny (model prog w) A' (pyIter v) Q E ⟨hp, g, d, tk, os⟩ :=
    fun q => B.iter prog w _ _ ⟨hp, g, d, tk, os⟩ _ h1 q
  wp_walk using it1
  refine wpAny_stack_any fun st => wpAny_pure ?_
  split
  · rename_i c _ _ _ _ _
    cases (c == Value.type "enumerate")
    · wp_walk using it1
      exact ⟨_, rfl, hR⟩
    · wp_walk using it1
      exact ⟨_, rfl, hR⟩
  · wp_walk using it1
    exact ⟨_, rfl, hR⟩
theorem enum_begins1 {v : Value} {o : Obj} {G : Heap → Prop} {Q : Value → Shared → Prop} (B : Begins v o G) (h1 : G s.heap)
    (hQ : ∀ h', IsEnum h' (s.heap.objs.size + 1) s.heap.objs.size 0 .none → h'.get? s.heap.objs.size = some o → (∀ b o, s.heap.get? b = some o → h'.get? b = some o) → Q (.ref (s.heap.objs.size + 1)) { s with heap := h' }) :
    wpAny (model prog w) A (call (.type "enumerate") [v]) Q E s := by
  refine callType_new PySem.F.called_enumerate (by decide) (PySem.F.typeCall_enumerate_1 _) (PySem.F.newCall_enumerate_1 _) (fun obj => PySem.F.args_object_init_2 obj _) PySem.F.entry_enumerate_new (enum_new B) ⟨h1, ?_⟩
  have hz : (s.heap.push o).objs.size = s.heap.objs.size + 1 := Heap.size_push ..
  show _ ∧ _
  rw [hz]
  generalize hN : (s.heap.push o).push { cls := .type "enumerate", data := .fields #[.none, .bool false, .ref s.heap.objs.size, rawInt 0, .none, .none] } = h'
  have he : IsEnum h' (s.heap.objs.size + 1) s.heap.objs.size 0 .none := by
    rw [← hN, ← hz]
    exact Heap.get?_push_size _ rfl
  refine ⟨⟨_, he, rfl⟩, hQ _ he ?_ fun b o' x => ?_⟩
  · rw [← hN]
    exact Heap.get?_push_of_some _ (Heap.get?_push_size _ B.free)
  · rw [← hN]
    exact Heap.get?_push_of_some _ (Heap.get?_push_of_some _ x)
end
def IteM (K : PySem.W.Frag) (b : Bool) (a : Addr) : It where
  go := fun i H => ∃ (xs : List V) (x : V), Sq b K H a xs ∧ xs[i]? = some x
  yld := fun i H v H' => ∃ T x, v = .ref T ∧ H T = none ∧ H' = upd H T (.tup [.int (i : Nat), x]) ∧ ∀ xs, Sq b K H a xs → xs[i]? = some x
  stop := fun i H => ∃ xs : List V, Sq b K H a xs ∧ xs.length = i
theorem turn_enumM {P : Program} {w : World} {K : PySem.W.Frag} {elts : List Expr} {kk : Nat} {tpos : Pos} {b : Bool} {a e it : Addr} (ei : e ≠ it) (ea : e ≠ a) (ai : a ≠ it) :
    Turn P w K (.Tuple elts kk tpos) (IteM K b a) [e, it] e (fun i h => (∃ old, IsEnum h e it ((i : Nat) : Int) old) ∧ Cur b h it a i) := by
  refine ⟨by simp, fun i h st c hc => ?_, fun i h h' st k => ?_, ?_, ?_, fun A i s Q E st h => st.1.elim fun _ q => wpAny_pyIter_enum q h⟩
  · obtain ⟨⟨old, he⟩, c1⟩ := st
    simp only [List.mem_cons, List.not_mem_nil, or_false] at hc
    rcases hc with q | q
    · subst q; exact ⟨_, he, fun v q => nomatch q⟩
    · subst q; exact c1.ob
  · obtain ⟨⟨old, he⟩, c1⟩ := st
    exact ⟨⟨old, k e (by simp) _ he⟩, c1.keep fun o q => k it (by simp) o q⟩
  · intro X hP hw hK hc i pins s σ H E I hf st hg
    subst hP hw hK
    obtain ⟨⟨old, he⟩, c1⟩ := st
    obtain ⟨xs, x, hqx, hx⟩ := hg
    obtain ⟨us, S1, rv, D1, f1, g1⟩ := hqx.draw I ai (A := X.A.in1) (I.ok.hd hc)
    obtain ⟨u, hu, ru⟩ := rv.get hx
    have l1 := (List.getElem?_eq_some_iff.mp hu).1
    have el : e < s.heap.objs.size := Heap.lt_size he
    refine wpAny_pyNext_enum_itemC D1 he (f1 _ c1) l1 ei (by simp [ei, ea]) fun x1 h' tk p1 ho s1 hT hsz hk => ?_
    rw [hu] at p1
    cases p1
    refine ⟨_, rfl, wpAny_letOwnedTupleGo_enum (s := { s with heap := h', toks := tk + 1 }) ho fun h2 e2 sb => ?_⟩
    have keep : ∀ c o, c ∉ [e, it] → s.heap.get? c = some o → h2.get? c = some o := fun c o hb q => by
      simp only [List.mem_cons, List.not_mem_nil, or_false, not_or] at hb
      exact (sb.2 c hb.1).trans (hk c o hb.1 hb.2 q)
    have hT2 : h2.get? s.heap.objs.size = some { cls := .type "tuple", data := .seq #[.int i tk, u] } := (sb.2 _ (Nat.ne_of_gt el)).trans hT
    have new : ObjOk X.prog X.w (upd H s.heap.objs.size (.tup [.int (i : Nat), x])) h2 s.heap.objs.size (.tup [.int (i : Nat), x]) := by
      refine ⟨?_, [.int i tk, u], Paired.cons ⟨_, rfl⟩ (Paired.cons ru Paired.nil), _, hT2, rfl, _, rfl⟩
      exact (by decide : 2 ≤ sizeLine)
    have J : Inv X pins σ (upd H s.heap.objs.size (.tup [.int (i : Nat), x])) { s with heap := h2, toks := tk + 1 } := I.turnedNew (t' := tk + 1) keep hf (Nat.le_refl _) new
    refine ⟨.ref s.heap.objs.size, _, J, rfl, ⟨_, x, rfl, I.hok.fresh (Nat.le_refl _), rfl, fun l hl => (Sq.inj I hl hqx).symm ▸ hx⟩, ⟨⟨u, ?_⟩, ?_⟩, fun c hcm => ?_⟩
    · rw [show ((i + 1 : Nat) : Int) = (i : Int) + 1 by omega]
      exact e2
    · exact (g1 _ _ s1).keep fun o q => (sb.2 _ (Ne.symm ei)).trans q
    · have hlt : c < s.heap.objs.size := by
        simp only [List.mem_cons, List.not_mem_nil, or_false] at hcm
        rcases hcm with q | q
        · rw [q]; exact el
        · rw [q]; obtain ⟨_, r, _⟩ := c1.ob; exact Heap.lt_size r
      rw [upd_ne (Nat.ne_of_lt hlt)]
      exact (hf c hcm).1
  · intro X hP hw hK hc i pins s σ H E I hf st hg
    subst hP hw hK
    obtain ⟨⟨old, he⟩, c1⟩ := st
    obtain ⟨xs, hqx, e1⟩ := hg
    obtain ⟨us, S1, rv, D1, f1, g1⟩ := hqx.draw I ai (A := X.A.in1) (I.ok.hd hc)
    have l1 : i = us.length := e1.symm.trans rv.length
    subst l1
    refine wpAny_pyNext_enum_endD D1 he (f1 _ c1) fun h' hx => ⟨rfl, ?_⟩
    refine I.turnedL (t' := s.toks) (ch := [e, it]) (fun c o hb q => ?_) hf
    simp only [List.mem_cons, List.not_mem_nil, or_false, not_or] at hb
    exact hx c o hb.2 q
def tiEnumM (K : PySem.W.Frag) (b : Bool) (ta : TA) : TI := fun σ H R => ta σ H fun vs H1 => ∃ a xs, vs = [.ref a] ∧ Sq b K H1 a xs ∧ R (IteM K b a) H1
theorem pi_enumM {X : Cx} (b : Bool) {e : Expr} {ta : TA} {p pos tpos : Pos} {elts : List Expr} {kk : Nat} (hg : Gl X "enumerate") (hm : X.mg "enumerate" = none) (ha : PA X [e] ta) (hs : starEach [e] X.env = [(false, eval e X.env)] := by rfl) :
    PI X (.Tuple elts kk tpos) (.Call (.Name "enumerate" p) [e] [] pos) (tiEnumM X.K b ta) := by
  refine ⟨fun pins s σ H R I h => Call_ (ld_blt I hg hm boot_enumerate (PyProof.Rows.callWith_type1 (thn (ha.run pos pins s σ H _ I h) fun us s1 ⟨vs, H1, I1, r1, a, xs, ev, qa, q⟩ => ?_) hs rfl))⟩
  subst ev
  rw [Vals.ref1 r1]
  obtain ⟨o1, G1, la, B1, h1, c1⟩ := qa.begin I1
  refine enum_begins1 B1 h1 fun h' he ho1 hk => wpAny_pyIter_enum he ?_
  have J : Inv X pins σ H1 { s1 with heap := h' } := I1.kept (t' := s1.toks) hk
  refine ⟨_, _, _, _, H1, rfl, J, turn_enumM (Nat.succ_ne_self _) (Nat.ne_of_gt (Nat.lt_succ_of_lt la)) (Nat.ne_of_lt la), ⟨⟨_, he⟩, c1 _ _ ho1⟩, fun c hc => ?_, q⟩
  have hle : s1.heap.objs.size ≤ c := by
    simp only [List.mem_cons, List.not_mem_nil, or_false] at hc
    rcases hc with z | z
    all_goals
      rw [z]
      first
        | exact Nat.le_refl _
        | exact Nat.le_add_right _ _
  exact I1.fpOk hle (I1.hok.fresh hle)
theorem walk_enumM {K : PySem.W.Frag} {b : Bool} {a : Addr} {xs : List V} : Walk (IteM K b a) xs.length (fun H => Sq b K H a xs) (YPair (fun i => some (.int (i : Nat))) (fun i => xs[i]?)) := by
  refine ⟨fun i H hi q => ⟨xs, xs[i], q, by simp [hi]⟩, fun H q => ⟨xs, q, rfl⟩, fun i H v H' _ q y => ?_⟩
  obtain ⟨T, x, h1, h2, h3, h4⟩ := y
  exact ⟨T, _, x, h1, h2, h3, rfl, h4 xs q⟩
end Bay
namespace Bay
open PySem PySem.Spec PyProof.Rows L2
open C8 (Cal pe_c Mak pe_mk)
/-! ## a comprehension by what each turn makes -/
/-- the tuples stay -/
def Kt (H H' : Hp) : Prop := ∀ b xs, H b = some (.tup xs) → H' b = some (.tup xs)
theorem same_kt {H H' : Hp} (s : Same H H') : Kt H H' := fun b xs e => s b _ e
theorem IsPt.kt {H H' : Hp} {v : V} {p : Pt} (h : IsPt H v p) (s : Kt H H') : IsPt H' v p := let ⟨a, e, k⟩ := h; ⟨a, e, s _ _ k⟩
theorem kt_upd {H : Hp} {D : Addr} {l : List V} {o : HO} (h : H D = some (.lst l)) : Kt H (upd H D o) := fun b xs e => by
  rw [upd_ne (fun q => by rw [q, h] at e; cases e)]
  exact e
abbrev Pts (H : Hp) : List V → List Pt → Prop := Paired (IsPt H)
theorem Paired.kt {β : Type} {R : Hp → V → β → Prop} (st : ∀ H H' v b, Kt H H' → R H v b → R H' v b) {H H' : Hp} (k : Kt H H') {vs : List V} {bs : List β} (p : Paired (R H) vs bs) : Paired (R H') vs bs := Paired.mapP p fun a b h => st H H' a b k h
theorem Paired.snoc {α β : Type} {R : α → β → Prop} : ∀ {xs : List α} {ys : List β} {x : α} {y : β}, Paired R xs ys → R x y → Paired R (xs ++ [x]) (ys ++ [y])
  | _, _, _, _, .nil, r => .cons r .nil
  | _, _, _, _, .cons q t, r => .cons q (Paired.snoc t r)
theorem Paired.at {α β : Type} {R : α → β → Prop} : ∀ {xs : List α} {ys : List β} {i : Nat} {x : α}, Paired R xs ys → xs[i]? = some x → ∃ y, ys[i]? = some y ∧ R x y
  | _, _, _, _, .nil, e => by simp at e
  | _, _, 0, _, .cons r _, e => by simp at e; subst e; exact ⟨_, rfl, r⟩
  | _, _, i + 1, x, .cons _ t, e => by
    obtain ⟨y, h1, h2⟩ := Paired.at (i := i) (x := x) t (by simpa using e)
    exact ⟨y, by simpa using h1, h2⟩
theorem Paired.at2 {α β : Type} {R : α → β → Prop} : ∀ {xs : List α} {ys : List β} {i : Nat} {y : β}, Paired R xs ys → ys[i]? = some y → ∃ x, xs[i]? = some x ∧ R x y
  | _, _, _, _, .nil, e => by simp at e
  | _, _, 0, _, .cons r _, e => by simp at e; subst e; exact ⟨_, rfl, r⟩
  | _, _, i + 1, y, .cons _ t, e => by
    obtain ⟨x, h1, h2⟩ := Paired.at2 (i := i) (y := y) t (by simpa using e)
    exact ⟨x, by simpa using h1, h2⟩
theorem Paired.len {α β : Type} {R : α → β → Prop} : ∀ {xs : List α} {ys : List β}, Paired R xs ys → xs.length = ys.length
  | _, _, .nil => rfl
  | _, _, .cons _ t => congrArg (· + 1) (Paired.len t)
theorem take_snoc {α : Type} {as : List α} {i : Nat} {a : α} (h : as[i]? = some a) : as.take (i + 1) = as.take i ++ [a] := by
  rw [List.take_add_one, h]
  rfl
theorem lc_gen {J : It} {n : Nat} {G : Hp → Prop} {Y : Nat → Hp → V → Hp → Prop} (w : Walk J n G Y) {α β : Type} (as : List α) (t : α → Bool) (f : α → β) (Rt : Hp → V → β → Prop) (len : as.length = n) (hn : n ≤ sizeLine)
    (stab : ∀ H H' v b, Kt H H' → Rt H v b → Rt H' v b) {g : TG} {tt : TT} {te : TE} {vs : List Nat} {σ : L2.St} {H1 : Hp} {D : Addr} {Qd : Hp → Prop} (hD : H1 D = none) (hG : ∀ H, Same H1 H → G H)
    (hs : ∀ i a x H H' (Ny : V → Hp → Prop) (Ns : Hp → Prop), as[i]? = some a → Same H1 H → Y i H x H' → (t a = true → ∀ y H4, Same H H4 → Rt H4 y (f a) → Ny y H4) → (t a = false → ∀ H3, Same H H3 → Ns H3) →
      g x (wipe σ vs) H' fun σ2 H2 => wipe σ2 vs = wipe σ vs ∧ tt σ2 H2 fun b H3 => if b = true then te σ2 H3 Ny else Ns H3)
    (hd : ∀ ys H, Same H1 H → H D = some (.lst ys) → Paired (Rt H) ys ((as.filter t).map f) → Qd H) :
    ∃ W : Nat → Nat → Hp → Prop, (∃ m, W 0 m (upd H1 D (.lst []))) ∧ ∀ i m H, W i m H →
      (J.stop i H ∧ Qd H) ∨ (J.go i H ∧ ∃ Nx : Hp → Prop, (∀ H', Nx H' → ∃ m', m' < m ∧ W (i + 1) m' H') ∧ ∀ x H', J.yld i H x H' → g x (wipe σ vs) H' fun σ2 H2 => wipe σ2 vs = wipe σ vs ∧ tt σ2 H2 fun b H3 =>
        if b = true then te σ2 H3 fun y H4 => ∃ acc, H4 D = some (.lst acc) ∧ acc.length < sizeLine ∧ Nx (upd H4 D (.lst (acc ++ [y]))) else Nx H3) := by
  subst len
  refine lc_it w (fun i H => ∃ ys, H D = some (.lst ys) ∧ Same H1 H ∧ ys.length ≤ i ∧ Paired (Rt H) ys (((as.take i).filter t).map f)) ⟨[], upd_same, sameU (Same.refl H1) hD, Nat.le_refl _, Paired.nil⟩ (fun i H _ h => ?_) (fun i x H H' hi h y => ?_) (fun H h => ?_)
  · obtain ⟨_, _, s, _⟩ := h
    exact hG H s
  · obtain ⟨ys, e, s, l, p⟩ := h
    have ea : as[i]? = some (as[i]) := List.getElem?_eq_getElem hi
    refine hs i as[i] x H H' _ _ ea s y (fun ht v H4 s4 r => ?_) (fun ht H3 s3 => ?_)
    · have e4 := s4 D _ e
      refine ⟨ys, e4, Nat.lt_of_le_of_lt l (Nat.lt_of_lt_of_le hi hn), ys ++ [v], upd_same, fun b u eb => ?_, by simp; omega, ?_⟩
      · rw [upd_ne (ne_of_none eb hD)]
        exact s4 b u (s b u eb)
      · rw [take_snoc ea, List.filter_append, List.map_append]
        have ht' : t as[i] = true := ht
        have e5 : List.map f (List.filter t [as[i]]) = [f as[i]] := by simp [ht']
        rw [e5]
        have k : Kt H (upd H4 D (.lst (ys ++ [v]))) := fun b xs q => kt_upd e4 b xs (s4 b _ q)
        exact Paired.snoc (Paired.kt stab k p) (stab _ _ _ _ (kt_upd e4) r)
    · refine ⟨ys, s3 D _ e, fun b u eb => s3 b u (s b u eb), by omega, ?_⟩
      rw [take_snoc ea, List.filter_append, List.map_append]
      have ht' : t as[i] = false := ht
      have e5 : List.map f (List.filter t [as[i]]) = [] := by simp [ht']
      rw [e5, List.append_nil]
      exact Paired.kt stab (same_kt s3) p
  · obtain ⟨ys, e, s, l, p⟩ := h
    rw [List.take_length] at p
    exact hd ys H s e p
theorem filter_yes {α : Type} (as : List α) : as.filter (fun _ => true) = as := by simp
/-- a pair of two things -/
def Two {α β : Type} (R1 : Hp → V → α → Prop) (R2 : Hp → V → β → Prop) (H : Hp) (v : V) (p : α × β) : Prop := ∃ a x y, v = .ref a ∧ H a = some (.tup [x, y]) ∧ R1 H x p.1 ∧ R2 H y p.2
theorem Two.kt {α β : Type} {R1 : Hp → V → α → Prop} {R2 : Hp → V → β → Prop} (s1 : ∀ H H' v b, Kt H H' → R1 H v b → R1 H' v b) (s2 : ∀ H H' v b, Kt H H' → R2 H v b → R2 H' v b) : ∀ H H' v b, Kt H H' → Two R1 R2 H v b → Two R1 R2 H' v b := fun H H' v b k h => by
  obtain ⟨a, x, y, e, h1, h2, h3⟩ := h
  exact ⟨a, x, y, e, k _ _ h1, s1 _ _ _ _ k h2, s2 _ _ _ _ k h3⟩
theorem pt_kt : ∀ H H' v b, Kt H H' → IsPt H v b → IsPt H' v b := fun _ _ _ _ k h => h.kt k
abbrev Pair2 : Hp → V → Pt × Pt → Prop := Two IsPt IsPt
theorem pair2_kt : ∀ H H' v b, Kt H H' → Pair2 H v b → Pair2 H' v b := Two.kt pt_kt pt_kt
def IsI (_ : Hp) (v : V) (n : Int) : Prop := v = .int n
def IsB (_ : Hp) (v : V) (b : Bool) : Prop := v = .bl b
theorem isI_kt : ∀ H H' v b, Kt H H' → IsI H v b → IsI H' v b := fun _ _ _ _ _ h => h
theorem isB_kt : ∀ H H' v b, Kt H H' → IsB H v b → IsB H' v b := fun _ _ _ _ _ h => h
theorem ints_of {H : Hp} : ∀ {vs : List V} {ns : List Int}, Paired (IsI H) vs ns → vs = ns.map V.int
  | _, _, .nil => rfl
  | _, _, .cons r t => by rw [List.map_cons, ← ints_of t]; exact congrArg (· :: _) r
theorem bools_of {H : Hp} : ∀ {vs : List V} {ns : List Bool}, Paired (IsB H) vs ns → vs = ns.map V.bl
  | _, _, .nil => rfl
  | _, _, .cons r t => by rw [List.map_cons, ← bools_of t]; exact congrArg (· :: _) r
theorem Sq.same {K : PySem.W.Frag} {b : Bool} {H H' : Hp} {a : Addr} {xs : List V} (s : Same H H') (h : Sq b K H a xs) : Sq b K H' a xs := by
  cases b
  all_goals
    rcases h with (h | ⟨o, h⟩) | h
    · exact .inl (.inl (s _ _ h))
    · exact .inl (.inr ⟨o, s _ _ h⟩)
    · exact .inr h
theorem walk_sq {K : PySem.W.Frag} {a : Addr} {xs : List V} : Walk (Itl K a) xs.length (fun H => Sq false K H a xs) (YAt xs) := walk_list
end Bay
namespace Bay
open PySem PySem.Spec PyProof.Rows L2
open C8 (Cal pe_c Mak pe_mk)
/-! ## rules that name the fragment, for the inside of comprehensions -/
section
variable {X : Cx} {a b : Expr} {ta tb : TE} {pos : Pos}
theorem ixk (K : PySem.W.Frag) (ha : PE X a ta) (hb : PE X b tb) (hK : X.K = K := by rfl) (hs : PlainIx b := by exact fun _ _ => rfl) : PE X (.Subscript a b pos) (tOp (rIxT K) ta tb) := hK ▸ pe_ix ix_tup ha hb hs
theorem lxk (K : PySem.W.Frag) (ha : PE X a ta) (hb : PE X b tb) (hK : X.K = K := by rfl) (hs : PlainIx b := by exact fun _ _ => rfl) : PE X (.Subscript a b pos) (tOp (rIxL K) ta tb) := hK ▸ pe_ix ix_list ha hb hs
theorem tgk (K : PySem.W.Frag) (n : Nat) {es : List Expr} {k : Nat} {t : TGs} (hc : X.calm = true) (h : PGs X es t) (hK : X.K = K := by rfl) (hn : (assignEach es X.env).length = n := by rfl) (hst : (assignEach es X.env).findIdx? (·.1) = none := by rfl) :
    PG X (.Tuple es k pos) (gTup K n t) := hK ▸ pg_tup hc h hn hst
end
theorem ite_t {p q : Prop} {b : Bool} (h : b = true → p) (h' : b = false → q) : if b = true then p else q := by
  cases b
  · exact h' rfl
  · exact h rfl
def co (i : Nat) (p : Pt) : Int := if i = 0 then p.1 else p.2
theorem IsPt.ix {K : PySem.W.Frag} {H : Hp} {v : V} {p : Pt} (h : IsPt H v p) {i : Nat} (hi : i < 2) {Q : VK} (q : Q (.int (co i p)) H) : rIxT K v (.int (i : Nat)) H Q := by
  obtain ⟨a, rfl, e⟩ := h
  have : i = 0 ∨ i = 1 := by omega
  rcases this with rfl | rfl
  · exact ⟨a, _, 0, _, rfl, rfl, sqt e, rfl, q⟩
  · exact ⟨a, _, 1, _, rfl, rfl, sqt e, rfl, q⟩
theorem IsPt.i0 {K : PySem.W.Frag} {σ : L2.St} {H : Hp} {v : V} {p : Pt} (h : IsPt H v p) {Q : VK} (q : Q (.int p.1) H) : tC (.int 0) σ H fun y H2 => rIxT K v y H2 Q := h.ix (i := 0) (by decide) q
theorem IsPt.i1 {K : PySem.W.Frag} {σ : L2.St} {H : Hp} {v : V} {p : Pt} (h : IsPt H v p) {Q : VK} (q : Q (.int p.2) H) : tC (.int 1) σ H fun y H2 => rIxT K v y H2 Q := h.ix (i := 1) (by decide) q
theorem walk_rN (lo n : Nat) : Walk (Itr (lo : Nat) n) n (fun _ => True) (fun k H x H' => H' = H ∧ x = .int ((lo + k : Nat) : Int)) :=
  walk_range.mono (fun _ _ => trivial) fun i H x H' _ _ y => ⟨y.1, y.2.trans (congrArg V.int (show (lo : Int) + (i : Int) = ((lo + i : Nat) : Int) by omega))⟩
theorem walk_r0 (n : Nat) : Walk (Itr 0 n) n (fun _ => True) (fun k H x H' => H' = H ∧ x = .int (k : Int)) :=
  walk_range.mono (fun _ _ => trivial) fun i H x H' _ _ y => ⟨y.1, y.2.trans (congrArg V.int (show (0 : Int) + (i : Int) = (i : Int) by omega))⟩
end Bay
namespace Bay
open PySem PySem.Spec PyProof.Rows L2
open C8 (Cal pe_c Mak pe_mk)
section
variable {P : Program} {w : World} {K : PySem.W.Frag} {mg : Str → Option Value} {base : Heap}
def spOn : Sp := fun vs H Q _ => ∃ (x u v : V) (a b c : Pt), vs = [x, u, v] ∧ IsPt H x c ∧ IsPt H u a ∧ IsPt H v b ∧ Sm (2 ^ 62) a ∧ Sm (2 ^ 62) b ∧ ∀ H', Same H H' → Q (.bl (decide (onSt a b c))) H'
theorem scIsOn : FnScope ["point", "one", "other", "within", "at"] ["point", "one", "other"] (defScope s_is_on) := ⟨rfl, rfl, rfl, by decide +kernel, rfl, by decide +kernel, by decide +kernel⟩
theorem eqv_bools (x y : Bool) : PyData.eqv (.list [.bool x, .bool y]) (.list [.bool true, .bool true]) = (x && y) := by cases x <;> cases y <;> rfl
theorem c_is_on (B : Bn mg) (C_turn_of : Cal P w K mg base 2 "turn_of" spTurn []) (F : Has K mg "is_on" s_is_on ["point", "one", "other"]) : Cal P w K mg base 3 "is_on" spOn [] := by
  refine F.cal scIsOn (fun vs H Q E h => ?_) (fun f cdv A outer s H vs Q E hr h => ?_)
  · obtain ⟨_, _, _, _, _, _, rfl, _⟩ := h
    rfl
  · obtain ⟨x, u, v, a, b, c, rfl, hx, hu, hv, sa, sb, k⟩ := h
    refine ⟨_, (pss_cons (ps_if (pt_cmpR op_ne (pe_c C_turn_of hr (by decide) rfl (pa_cons (pv 1) (pa_cons (pv 2) (pa_cons (pv 0) pa_nil)))) pe_int (nomark _)) (pss_one (ps_ret pe_bl)) pss_nil)
 (pss_cons (ps_setLc (i := 3) (own := [("at", 4)]) rfl scIsOn.nd rfl rfl (sw_true rfl rfl rfl (by decide +kernel)) (pi_tup (pe_tup (pa_cons pe_int (pa_cons pe_int pa_nil)))) (blkOk_by (N := ["point", "one", "other", "within", "at"]) (sc := defScope s_is_on) (by decide +kernel)) (fun _ _ _ _ _ => (pg_name (i := 4) scIsOn.nd rfl (Or.inl rfl))) (fun _ _ _ _ _ => pts_nil) (fun _ _ _ _ _ => (pe_chain op_le op_le (pe_callB (call_min2 rfl) (by rfl) B.min (by decide +kernel) (pa_cons (ixk K (pv 1) (pv 4)) (pa_cons (ixk K (pv 2) (pv 4)) pa_nil))) (ixk K (pv 0) (pv 4)) (pe_callB (call_max2 rfl) (by rfl) B.max (by decide +kernel) (pa_cons (ixk K (pv 1) (pv 4)) (pa_cons (ixk K (pv 2) (pv 4)) pa_nil))))))
 (pss_one (ps_ret (pe_cmpR (op_eqD hr.units) (pv 3) (pe_lst (pa_cons pe_bl (pa_cons pe_bl pa_nil))) (nomark _)))))), ?_⟩
    refine ⟨_, rfl, _, rfl, _, rfl, u, v, x, a, b, c, rfl, hu, hv, hx, sa, sb, fun H1 s1 => ?_⟩
    have hx := hx.same s1
    have hu := hu.same s1
    have hv := hv.same s1
    refine ⟨rfl, _, rfl, ite_t (fun hb => ?_) (fun hb => ?_)⟩
    · have h0 : ¬ onSt a b c := fun o => by
        have := o.1
        rw [lcross_cr] at this
        simp [this] at hb
      have := k _ s1
      rw [decide_eq_false h0] at this
      exact this
    · have h0 : cr (way a b) (way a c) = 0 := by simpa using hb
      refine ⟨by show 2 ≤ sizeLine; decide, fun T hT => ?_⟩
      have s2 := sameU (o := .tup [.int 0, .int 1]) (Same.refl H1) hT
      refine ⟨T, rfl, ⟨_, sqt upd_same⟩, fun D hD => ?_⟩
      refine lc_gen (w := walk_tup (xs := [.int 0, .int 1])) [0, 1] (fun _ => true) (fun i => decide (mn (co i a) (co i b) ≤ co i c) && decide (co i c ≤ mx (co i a) (co i b))) IsB rfl (by decide) isB_kt hD (fun H s => sqt (s _ _ upd_same)) (fun i e y H H' Ny Ns ee s Y hy _ => ?_) (fun ys H s e p => ?_)
      · obtain ⟨rfl, ey⟩ := Y
        have s3 : Same H1 H' := fun b u q => s _ _ (s2 b u q)
        have hx := hx.same s3
        have hu := hu.same s3
        have hv := hv.same s3
        have he : e < 2 ∧ y = .int (e : Nat) := by
          match i, ee with
          | 0, ee => cases ee; exact ⟨by decide, by simpa using ey.symm⟩
          | 1, ee => cases ee; exact ⟨by decide, by simpa using ey.symm⟩
        obtain ⟨he, rfl⟩ := he
        refine ⟨rfl, ?_⟩
        refine ⟨_, rfl, _, rfl, hu.ix he ⟨_, rfl, _, rfl, hv.ix he ⟨_, _, rfl, ⟨_, rfl, _, rfl, hx.ix he ?_⟩⟩⟩⟩
        refine ⟨_, _, rfl, rfl, _, rfl, ite_t (fun h1 => ?_) (fun h1 => ?_)⟩
        · refine ⟨_, rfl, _, rfl, hu.ix he ⟨_, rfl, _, rfl, hv.ix he ⟨_, _, rfl, ?_⟩⟩⟩
          refine ⟨_, _, rfl, rfl, hy rfl _ _ (Same.refl _) ?_⟩
          show V.bl _ = V.bl _
          have h2 : decide (mn (co e a) (co e b) ≤ co e c) = true := h1
          rw [h2]
          rfl
        · refine hy rfl _ _ (Same.refl _) ?_
          show V.bl _ = V.bl _
          have h2 : decide (mn (co e a) (co e b) ≤ co e c) = false := h1
          rw [h2]
          rfl
      · have ep := bools_of p
        have s3 : Same H1 H := fun b u q => s _ _ (s2 b u q)
        refine ⟨_, rfl, by show 2 ≤ sizeLine; decide, fun q hq => ?_⟩
        have hD2 : D ≠ q := fun z => by rw [z, hq] at e; cases e
        refine ⟨.list [.bool _, .bool _], .list [.bool true, .bool true], .lst (sql (by rw [upd_ne hD2, e, ep]; rfl)) (.cons (.bl _) (.cons (.bl _) .nil)), .lst (sql upd_same) (.cons (.bl _) (.cons (.bl _) .nil)), rfl, rfl, ?_⟩
        rw [eqv_bools]
        have := k _ (sameU (o := .lst [.bl true, .bl true]) (fun b u q => s3 b u (s1 b u q)) hq)
        have e2 : decide (onSt a b c) = (decide (mn (co 0 a) (co 0 b) ≤ co 0 c) && decide (co 0 c ≤ mx (co 0 a) (co 0 b)) && (decide (mn (co 1 a) (co 1 b) ≤ co 1 c) && decide (co 1 c ≤ mx (co 1 a) (co 1 b)))) := by
          have h3 : lcross a b c = 0 := by rw [lcross_cr]; exact h0
          unfold onSt inBox
          simp only [h3, true_and]
          rw [Bool.decide_and, Bool.decide_and, Bool.decide_and]
          rfl
        rw [e2] at this
        exact this
end
end Bay
namespace Bay
open PySem PySem.Spec PyProof.Rows L2
open C8 (Cal pe_c Mak pe_mk)
section
variable {P : Program} {w : World} {K : PySem.W.Frag} {mg : Str → Option Value} {base : Heap}
/-- nothing is told but that a bool comes -/
def spApart : Sp := fun vs H Q _ => ∃ (x u v t : V) (a b c d : Pt), vs = [x, u, v, t] ∧ IsPt H x a ∧ IsPt H u b ∧ IsPt H v c ∧ IsPt H t d ∧ ∀ z H', Same H H' → Q (.bl z) H'
theorem scAreApart : FnScope ["one", "other", "third", "fourth", "at", "mine", "its"] ["one", "other", "third", "fourth"] (defScope s_are_apart) := ⟨rfl, rfl, rfl, by decide +kernel, rfl, by decide +kernel, by decide +kernel⟩
theorem c_are_apart (B : Bn mg) (F : Has K mg "are_apart" s_are_apart ["one", "other", "third", "fourth"]) : Cal P w K mg base 1 "are_apart" spApart [] := by
  refine F.cal scAreApart (fun vs H Q E h => ?_) (fun f cdv A outer s H vs Q E hr h => ?_)
  · obtain ⟨_, _, _, _, _, _, _, _, rfl, _⟩ := h
    rfl
  · obtain ⟨x, u, v, t, a, b, c, d, rfl, hx, hu, hv, ht, k⟩ := h
    refine ⟨_, (pss_cons (ps_for PassesOwn.never rfl (pi_tup (pe_tup (pa_cons pe_int (pa_cons pe_int pa_nil)))) (pg_name (i := 4) scAreApart.nd rfl (Or.inl rfl))
 (pss_cons (ps_par (i := 5) (j := 6) rfl scAreApart.nd rfl rfl (by decide) rfl rfl (pa_cons (pe_callB cr_sort2 (by rfl) B.sorted (by decide +kernel) (pa_cons (pe_tup (pa_cons (ixT (pv 0) (pv 4)) (pa_cons (ixT (pv 1) (pv 4)) pa_nil))) pa_nil)) (pa_cons (pe_callB cr_sort2 (by rfl) B.sorted (by decide +kernel) (pa_cons (pe_tup (pa_cons (ixT (pv 2) (pv 4)) (pa_cons (ixT (pv 3) (pv 4)) pa_nil))) pa_nil)) pa_nil)) (by rfl))
 (pss_one (ps_if (PW.pt (pw_or (pt_cmpR op_lt (ixL (pv 5) pe_int) (ixL (pv 6) pe_int) (nomark _)) (pw_or1 (pt_cmpR op_lt (ixL (pv 6) pe_int) (ixL (pv 5) pe_int) (nomark _))))) (pss_one (ps_ret pe_bl)) pss_nil))))
 (pss_one (ps_ret pe_bl))), ?_⟩
    refine ⟨by show 2 ≤ sizeLine; decide, fun T hT => ?_⟩
    have s0 := sameU (o := .tup [.int 0, .int 1]) (Same.refl H) hT
    refine ⟨T, rfl, ⟨_, sqt upd_same⟩, ?_⟩
    refine for_it (walk_tup (xs := [.int 0, .int 1])) (fun i σ H' => Same (upd H T (.tup [.int 0, .int 1])) H' ∧ ∃ e m n, σ = [some x, some u, some v, some t, e, m, n]) ⟨Same.refl _, none, none, none, rfl⟩ (fun i σ H' hi p => sqt (p.1 _ _ upd_same)) (fun i y σ H0 H1 hi p Y => ?_) (fun σ H' p => ?_)
    · obtain ⟨rfl, ey⟩ := Y
      obtain ⟨s1, e, m, n, rfl⟩ := p
      have s2 : Same H H1 := fun b u q => s1 _ _ (s0 b u q)
      have hx := hx.same s2
      have hu := hu.same s2
      have hv := hv.same s2
      have ht := ht.same s2
      have he : i < 2 ∧ y = .int (i : Nat) := by
        match i, ey with
        | 0, ee => exact ⟨by decide, by simpa using ee.symm⟩
        | 1, ee => exact ⟨by decide, by simpa using ee.symm⟩
      obtain ⟨he, rfl⟩ := he
      refine ⟨_, rfl, _, rfl, hx.ix he ⟨_, rfl, _, rfl, hu.ix he ⟨by show 2 ≤ sizeLine; decide, fun p1 hp1 => ?_⟩⟩⟩
      have s3 := sameU (o := .tup [.int (co i a), .int (co i b)]) (Same.refl H1) hp1
      refine ⟨p1, _, _, rfl, sqt upd_same, fun q1 hq1 => ?_⟩
      have s4 := sameU (o := .lst [.int (mn (co i a) (co i b)), .int (mx (co i a) (co i b))]) s3 hq1
      have hv := hv.same s4
      have ht := ht.same s4
      refine ⟨_, rfl, _, rfl, hv.ix he ⟨_, rfl, _, rfl, ht.ix he ⟨by show 2 ≤ sizeLine; decide, fun p2 hp2 => ?_⟩⟩⟩
      have s5 := sameU (o := .tup [.int (co i c), .int (co i d)]) (Same.refl _) hp2
      refine ⟨p2, _, _, rfl, sqt upd_same, fun q2 hq2 => ?_⟩
      have s6 := sameU (o := .lst [.int (mn (co i c) (co i d)), .int (mx (co i c) (co i d))]) s5 hq2
      have s7 : Same H1 _ := fun b u q => s6 b u (s4 b u q)
      have fin : Same H _ := fun b u q => s7 b u (s2 b u q)
      refine ⟨_, _, rfl, ?_⟩
      refine ⟨_, rfl, q1, _, _, _, rfl, rfl, sql (s6 _ _ upd_same), rfl, _, rfl, q2, _, _, _, rfl, rfl, sql upd_same, rfl, _, _, rfl, rfl, _, rfl, ite_t (fun _ => ?_) (fun _ => ?_)⟩
      · exact k _ _ fin
      · refine ⟨_, rfl, q2, _, _, _, rfl, rfl, sql upd_same, rfl, _, rfl, q1, _, _, _, rfl, rfl, sql (s6 _ _ upd_same), rfl, _, _, rfl, rfl, _, rfl, ite_t (fun _ => ?_) (fun _ => ?_)⟩
        · exact k _ _ fin
        · exact ⟨fun b u q => s7 b u (s1 b u q), _, _, _, rfl⟩
    · obtain ⟨s1, _⟩ := p
      exact k _ _ (fun b u q => s1 _ _ (s0 b u q))
/-- two sides that stand apart don't meet -/
def spMeet : Sp := fun vs H Q _ => ∃ (x u v t : V) (a b c d : Pt), vs = [x, u, v, t] ∧ IsPt H x a ∧ IsPt H u b ∧ IsPt H v c ∧ IsPt H t d ∧ Sm (2 ^ 62) a ∧ Sm (2 ^ 62) b ∧ Sm (2 ^ 62) c ∧ Sm (2 ^ 62) d ∧ Sep a b c d ∧ ∀ H', Same H H' → Q (.bl false) H'
theorem scMeetIn : FnScope ["one", "other", "third", "fourth", "first"] ["one", "other", "third", "fourth"] (defScope s_meet_in) := ⟨rfl, rfl, rfl, by decide +kernel, rfl, by decide +kernel, by decide +kernel⟩
theorem sgn_bd (n : Int) : -(2 ^ 64) < sgn n ∧ sgn n < 2 ^ 64 := by
  unfold sgn
  split <;> split <;> decide
theorem sgn_neg {m n : Int} : sgn m * sgn n < 0 ↔ ((0 < m ∧ n < 0) ∨ (m < 0 ∧ 0 < n)) := by
  unfold sgn
  by_cases a : 0 < m <;> by_cases b : m < 0 <;> by_cases c : 0 < n <;> by_cases d : n < 0 <;> simp [a, b, c, d] <;> omega
theorem c_meet_in (C_are_apart : Cal P w K mg base 1 "are_apart" spApart []) (C_is_on : Cal P w K mg base 3 "is_on" spOn []) (C_turn_of : Cal P w K mg base 2 "turn_of" spTurn []) (C_sign_of : Cal P w K mg base 1 "sign_of" spSign [])
    (F : Has K mg "meet_in" s_meet_in ["one", "other", "third", "fourth"]) : Cal P w K mg base 4 "meet_in" spMeet [] := by
  refine F.cal scMeetIn (fun vs H Q E h => ?_) (fun f cdv A outer s H vs Q E hr h => ?_)
  · obtain ⟨_, _, _, _, _, _, _, _, rfl, _⟩ := h
    rfl
  · obtain ⟨x, u, v, t, a, b, c, d, rfl, hx, hu, hv, ht, sa, sb, sc, sd, hs, k⟩ := h
    refine ⟨_, (pss_cons (ps_if (pt_val (pe_c C_are_apart hr (by decide) rfl (pa_cons (pv 0) (pa_cons (pv 1) (pa_cons (pv 2) (pa_cons (pv 3) pa_nil)))))) (pss_one (ps_ret pe_bl)) pss_nil)
 (pss_cons (ps_if (PW.pt (pw_or (pt_val (pe_c C_is_on hr (by decide) rfl (pa_cons (pv 2) (pa_cons (pv 0) (pa_cons (pv 1) pa_nil))))) (pw_or1 (pt_val (pe_c C_is_on hr (by decide) rfl (pa_cons (pv 3) (pa_cons (pv 0) (pa_cons (pv 1) pa_nil)))))))) (pss_one (ps_ret pe_bl)) pss_nil)
 (pss_cons (ps_if (PW.pt (pw_or (pt_val (pe_c C_is_on hr (by decide) rfl (pa_cons (pv 0) (pa_cons (pv 2) (pa_cons (pv 3) pa_nil))))) (pw_or1 (pt_val (pe_c C_is_on hr (by decide) rfl (pa_cons (pv 1) (pa_cons (pv 2) (pa_cons (pv 3) pa_nil)))))))) (pss_one (ps_ret pe_bl)) pss_nil)
 (pss_cons (ps_set (i := 4) scMeetIn.nd rfl (Or.inl rfl) (pe_op op_mul (pe_c C_sign_of hr (by decide) rfl (pa_cons (pe_c C_turn_of hr (by decide) rfl (pa_cons (pv 0) (pa_cons (pv 1) (pa_cons (pv 2) pa_nil)))) pa_nil)) (pe_c C_sign_of hr (by decide) rfl (pa_cons (pe_c C_turn_of hr (by decide) rfl (pa_cons (pv 0) (pa_cons (pv 1) (pa_cons (pv 3) pa_nil)))) pa_nil))))
 (pss_one (ps_ret (pe_and (pe_cmpR op_lt (pv 4) pe_int (nomark _)) (pe_one (pe_cmpR op_lt (pe_op op_mul (pe_c C_sign_of hr (by decide) rfl (pa_cons (pe_c C_turn_of hr (by decide) rfl (pa_cons (pv 2) (pa_cons (pv 3) (pa_cons (pv 0) pa_nil)))) pa_nil)) (pe_c C_sign_of hr (by decide) rfl (pa_cons (pe_c C_turn_of hr (by decide) rfl (pa_cons (pv 2) (pa_cons (pv 3) (pa_cons (pv 1) pa_nil)))) pa_nil))) pe_int (nomark _)))))))))), ?_⟩
    obtain ⟨n1, n2, n3, n4⟩ := on_not_sep hs
    refine ⟨_, rfl, _, rfl, _, rfl, _, rfl, _, _, _, _, _, _, _, _, rfl, hx, hu, hv, ht, fun z H1 s1 => ⟨_, rfl, ite_t (fun _ => k _ s1) (fun _ => ?_)⟩⟩
    refine ⟨_, rfl, _, rfl, _, rfl, _, _, _, _, _, _, rfl, hv.same s1, hx.same s1, hu.same s1, sa, sb, fun H2 s2' => ?_⟩
    have s2 : Same H H2 := fun b u q => s2' b u (s1 b u q)
    rw [decide_eq_false n1]
    refine ⟨_, rfl, ite_t (fun h => nomatch h) (fun _ => ?_)⟩
    refine ⟨_, rfl, _, rfl, _, rfl, _, _, _, _, _, _, rfl, ht.same s2, hx.same s2, hu.same s2, sa, sb, fun H3 s3' => ?_⟩
    have s3 : Same H H3 := fun b u q => s3' b u (s2 b u q)
    rw [decide_eq_false n2]
    refine ⟨_, rfl, ite_t (fun h => nomatch h) (fun _ => ?_)⟩
    refine ⟨_, rfl, _, rfl, _, rfl, _, _, _, _, _, _, rfl, hx.same s3, hv.same s3, ht.same s3, sc, sd, fun H4 s4' => ?_⟩
    have s4 : Same H H4 := fun b u q => s4' b u (s3 b u q)
    rw [decide_eq_false n3]
    refine ⟨_, rfl, ite_t (fun h => nomatch h) (fun _ => ?_)⟩
    refine ⟨_, rfl, _, rfl, _, rfl, _, _, _, _, _, _, rfl, hu.same s4, hv.same s4, ht.same s4, sc, sd, fun H5 s5' => ?_⟩
    have s5 : Same H H5 := fun b u q => s5' b u (s4 b u q)
    rw [decide_eq_false n4]
    refine ⟨_, rfl, ite_t (fun h => nomatch h) (fun _ => ?_)⟩
    refine ⟨_, rfl, _, rfl, _, rfl, _, _, _, _, _, _, rfl, hx.same s5, hu.same s5, hv.same s5, sa, sb, fun H6 s6' => ?_⟩
    have s6 : Same H H6 := fun b u q => s6' b u (s5 b u q)
    refine ⟨_, rfl, ?_⟩
    refine ⟨_, rfl, _, rfl, _, rfl, _, _, _, _, _, _, rfl, hx.same s6, hu.same s6, ht.same s6, sa, sb, fun H7 s7' => ?_⟩
    have s7 : Same H H7 := fun b u q => s7' b u (s6 b u q)
    refine ⟨_, rfl, _, _, rfl, rfl, .inl (sgn_bd _), ?_⟩
    refine ⟨_, rfl, _, _, rfl, rfl, _, rfl, ite_t (fun e1 => ?_) (fun _ => k _ s7)⟩
    refine ⟨_, rfl, _, rfl, _, rfl, _, _, _, _, _, _, rfl, hv.same s7, ht.same s7, hx.same s7, sc, sd, fun H8 s8' => ?_⟩
    have s8 : Same H H8 := fun b u q => s8' b u (s7 b u q)
    refine ⟨_, rfl, ?_⟩
    refine ⟨_, rfl, _, rfl, _, rfl, _, _, _, _, _, _, rfl, hv.same s8, ht.same s8, hu.same s8, sc, sd, fun H9 s9' => ?_⟩
    have s9 : Same H H9 := fun b u q => s9' b u (s8 b u q)
    refine ⟨_, rfl, _, _, rfl, rfl, .inl (sgn_bd _), ?_⟩
    refine ⟨_, _, rfl, rfl, ?_⟩
    have hn : ¬ (sgn (cr (way c d) (way c a)) * sgn (cr (way c d) (way c b)) < 0) := fun e2 => by
      have e1 := of_decide_eq_true e1
      rw [sgn_neg] at e1 e2
      refine no_cross hs ?_
      rw [lcross_cr, lcross_cr, lcross_cr, lcross_cr]
      exact ⟨e1, e2⟩
    have := k _ s9
    rw [show false = decide (sgn (cr (way c d) (way c a)) * sgn (cr (way c d) (way c b)) < 0) from (decide_eq_false hn).symm] at this
    exact this
end
end Bay
namespace Bay
open PySem PySem.Spec PyProof.Rows L2
open C8 (Cal pe_c Mak pe_mk)
theorem paired_of {α β : Type} {R : α → β → Prop} : ∀ {xs : List α} {ys : List β}, xs.length = ys.length → (∀ (i : Nat) (x : α) (y : β), xs[i]? = some x → ys[i]? = some y → R x y) → Paired R xs ys
  | [], [], _, _ => .nil
  | x :: xs, y :: ys, e, h => .cons (h 0 x y rfl rfl) (paired_of (by simpa using e) fun i a b ha hb => h (i + 1) a b (by simpa using ha) (by simpa using hb))
theorem Paired.drop {α β : Type} {R : α → β → Prop} : ∀ (n : Nat) {xs : List α} {ys : List β}, Paired R xs ys → Paired R (xs.drop n) (ys.drop n)
  | 0, _, _, h => h
  | _ + 1, _, _, .nil => .nil
  | n + 1, _, _, .cons _ t => Paired.drop n t
theorem Paired.take {α β : Type} {R : α → β → Prop} : ∀ (n : Nat) {xs : List α} {ys : List β}, Paired R xs ys → Paired R (xs.take n) (ys.take n)
  | 0, _, _, _ => .nil
  | _ + 1, _, _, .nil => .nil
  | n + 1, _, _, .cons r t => .cons r (Paired.take n t)
theorem Paired.app {α β : Type} {R : α → β → Prop} : ∀ {xs xs' : List α} {ys ys' : List β}, Paired R xs ys → Paired R xs' ys' → Paired R (xs ++ xs') (ys ++ ys')
  | _, _, _, _, .nil, h => h
  | _, _, _, _, .cons r t, h => .cons r (Paired.app t h)
theorem zip_get {α β : Type} {xs : List α} {ys : List β} {i : Nat} {p : α × β} (h : (xs.zip ys)[i]? = some p) : xs[i]? = some p.1 ∧ ys[i]? = some p.2 := by
  rw [List.getElem?_zip_eq_some] at h
  exact h
theorem zip_pairs {α β : Type} {R1 : Hp → V → α → Prop} {R2 : Hp → V → β → Prop} {H : Hp} {us ws : List V} {ps : List α} {qs : List β} {ts : List Addr} (h1 : Paired (R1 H) us ps) (h2 : Paired (R2 H) ws qs) (el : us.length = ws.length) (hl : ts.length = us.length)
    (hp : ∀ (j : Nat) (t : Addr), ts[j]? = some t → ∃ x y, us[j]? = some x ∧ ws[j]? = some y ∧ H t = some (.tup [x, y])) : Paired (Two R1 R2 H) (ts.map V.ref) (ps.zip qs) := by
  refine paired_of (by rw [List.length_map, List.length_zip, ← h1.length, ← h2.length]; omega) fun i x p hx hz => ?_
  obtain ⟨e1, e2⟩ := zip_get hz
  rw [List.getElem?_map] at hx
  cases ht : ts[i]? with
  | none => rw [ht] at hx; cases hx
  | some t =>
    rw [ht] at hx
    cases hx
    obtain ⟨a, b, ha, hb, hT⟩ := hp i t ht
    obtain ⟨p1, g1, r1⟩ := Paired.at h1 ha
    obtain ⟨p2, g2, r2⟩ := Paired.at h2 hb
    rw [e1] at g1
    rw [e2] at g2
    cases g1
    cases g2
    exact ⟨t, a, b, rfl, hT, r1, r2⟩
theorem cut1 {xs : List V} (h : 0 < xs.length) : cutV xs (some 1) none = xs.drop 1 := by
  unfold cutV
  rw [show (some (1 : Int)) = some ((1 : Nat) : Int) from rfl, HT.sIx_nat, HT.sIx_none, Nat.min_eq_left h]
  exact List.take_of_length_le (by simp)
theorem take1 {α : Type} {xs : List α} {x : α} (h : xs[0]? = some x) : xs.take 1 = [x] := by
  cases xs with
  | nil => simp at h
  | cons a t => simp at h; subst h; rfl
section
variable {P : Program} {w : World} {K : PySem.W.Frag} {mg : Str → Option Value} {base : Heap}
def spIsInt : Sp := fun vs H Q _ => ∃ n : Int, vs = [.int n] ∧ Q (.bl true) H
theorem scIsInteger : FnScope ["value"] ["value"] (defScope s_is_integer) := ⟨rfl, rfl, rfl, by decide +kernel, rfl, by decide +kernel, by decide +kernel⟩
theorem c_is_integer (B : Bn mg) (F : Has K mg "is_integer" s_is_integer ["value"]) : Cal P w K mg base 1 "is_integer" spIsInt [] := by
  refine F.cal scIsInteger (fun vs H Q E h => ?_) (fun f cdv A outer s H vs Q E hr h => ?_)
  · obtain ⟨_, rfl, _⟩ := h
    rfl
  · obtain ⟨n, rfl, k⟩ := h
    refine ⟨_, (pss_one (ps_ret (pe_and (pe_callB call_isi (by rfl) B.isinstance (by decide +kernel) (pa_cons (pv 0) (pa_cons (pe_bltn (by rfl) B.int (by decide +kernel) (v := .ty "int") rfl) pa_nil))) (pe_one (pe_not (pe_callB call_isi (by rfl) B.isinstance (by decide +kernel) (pa_cons (pv 0) (pa_cons (pe_bltn (by rfl) B.bool (by decide +kernel) (v := .ty "bool") rfl) pa_nil)))))))), ?_⟩
    refine ⟨_, rfl, _, _, _, _, true, rfl, .ty "int", .base (.int n), rfl, _, rfl, ite_t (fun _ => ?_) (fun e => nomatch e)⟩
    exact ⟨_, rfl, _, _, _, _, false, rfl, .ty "bool", .base (.int n), rfl, _, rfl, k⟩
def spIsPoint : Sp := fun vs H Q _ => ∃ (v : V) (p : Pt), vs = [v] ∧ IsPt H v p ∧ ∀ H', Same H H' → Q (.bl true) H'
theorem scIsPoint : FnScope ["value", "each"] ["value"] (defScope s_is_point) := ⟨rfl, rfl, rfl, by decide +kernel, rfl, by decide +kernel, by decide +kernel⟩
theorem c_is_point (B : Bn mg) (C_is_integer : Cal P w K mg base 1 "is_integer" spIsInt []) (F : Has K mg "is_point" s_is_point ["value"]) : Cal P w K mg base 2 "is_point" spIsPoint [] := by
  refine F.cal scIsPoint (fun vs H Q E h => ?_) (fun f cdv A outer s H vs Q E hr h => ?_)
  · obtain ⟨_, _, rfl, _⟩ := h
    rfl
  · obtain ⟨v, p, rfl, ⟨a, rfl, ha⟩, k⟩ := h
    refine ⟨_, (pss_one (ps_ret (pe_and (pe_callB call_isiT (by rfl) B.isinstance (by decide +kernel) (pa_cons (pv 0) (pa_cons (pe_tup (pa_cons (pe_bltn (by rfl) B.list (by decide +kernel) (v := .ty "list") rfl) (pa_cons (pe_bltn (by rfl) B.tuple (by decide +kernel) (v := .ty "tuple") rfl) pa_nil))) pa_nil))) (pe_and (pe_cmpR op_eq (pe_callB call_len_seq (by rfl) B.len (by decide +kernel) (pa_cons (pv 0) pa_nil)) pe_int (nomark _)) (pe_one (pe_callB (cr_all rfl) (by rfl) B.all (by decide +kernel) (pa_cons (pe_lc (own := [("each", 1)]) rfl scIsPoint.nd (pi_tup (pv 0)) (blkOk_by (N := ["value", "each"]) (sc := defScope s_is_point) (by decide +kernel)) (fun _ _ _ _ _ => (pg_name (i := 1) scIsPoint.nd rfl (Or.inl rfl))) (fun _ _ _ _ _ => pts_nil) (fun _ _ _ _ _ => (pe_c C_is_integer hr (by decide) rfl (pa_cons (pv 1) pa_nil)))) pa_nil))))))), ?_⟩
    refine ⟨_, rfl, by show 2 ≤ sizeLine; decide, fun T hT => ?_⟩
    have s1 := sameU (o := .tup [.ty "list", .ty "tuple"]) (Same.refl H) hT
    refine ⟨_, T, _, _, _, true, rfl, upd_same, .cons (.ty "list") (.cons (.ty "tuple") .nil), .base (.tup (s1 _ _ ha)), rfl, _, rfl, ite_t (fun _ => ?_) (fun e => nomatch e)⟩
    refine ⟨_, rfl, a, _, rfl, .inr (sqt (s1 _ _ ha)), rfl, _, rfl, ite_t (fun _ => ?_) (fun e => nomatch e)⟩
    refine ⟨_, rfl, a, rfl, ⟨_, sqt (s1 _ _ ha)⟩, fun D hD => ?_⟩
    refine lc_gen (w := walk_tup (xs := [.int p.1, .int p.2])) [p.1, p.2] (fun _ => true) (fun _ => true) IsB rfl (by show 2 ≤ sizeLine; decide) isB_kt hD (fun H s => sqt (s _ _ (s1 _ _ ha))) (fun i e y H H' Ny Ns ee s Y hy _ => ?_) (fun ys H s e p => ?_)
    · obtain ⟨rfl, ey⟩ := Y
      have he : y = .int e := by
        match i, ee, ey with
        | 0, ee, ey => cases ee; simpa using ey.symm
        | 1, ee, ey => cases ee; simpa using ey.symm
      subst he
      exact ⟨rfl, _, rfl, e, rfl, hy rfl _ _ (Same.refl _) rfl⟩
    · refine ⟨D, [true, true], rfl, sql ?_, k _ (fun b u q => s _ _ (s1 _ _ q))⟩
      rw [e, bools_of p]
      rfl
def spNeed : Sp := fun vs H Q _ => ∃ (v z : V) (p : Pt), vs = [v, z] ∧ IsPt H v p ∧ ∀ H', Same H H' → Q v H'
theorem scNeedPoint : FnScope ["value", "part"] ["value", "part"] (defScope s_need_point) := ⟨rfl, rfl, rfl, by decide +kernel, rfl, by decide +kernel, by decide +kernel⟩
theorem c_need_point (B : Bn mg) (C_is_point : Cal P w K mg base 2 "is_point" spIsPoint []) (F : Has K mg "need_point" s_need_point ["value", "part"]) : Cal P w K mg base 3 "need_point" spNeed [] := by
  refine F.cal scNeedPoint (fun vs H Q E h => ?_) (fun f cdv A outer s H vs Q E hr h => ?_)
  · obtain ⟨_, _, _, rfl, _⟩ := h
    rfl
  · obtain ⟨v, z, p, rfl, hv, k⟩ := h
    refine ⟨_, (pss_cons (ps_if (pt_not (pt_val (pe_c C_is_point hr (by decide) rfl (pa_cons (pv 0) pa_nil)))) (pss_one ps_never) pss_nil)
 (pss_one (ps_ret (pe_callTy call_tuple_of (by rfl) B.tuple (by decide +kernel) (pa_cons (pv 0) pa_nil))))), ?_⟩
    refine ⟨_, rfl, v, p, rfl, hv, fun H1 s1 => ⟨_, rfl, ite_t (fun e => nomatch e) (fun _ => ?_)⟩⟩
    obtain ⟨a, rfl, ha⟩ := hv
    exact ⟨_, rfl, a, _, rfl, .inr ⟨sqt (s1 _ _ ha), k _ s1⟩⟩
/-- the pairs of neighbours of a list or a tuple of points -/
def spPairs : Sp := fun vs H Q _ => ∃ (b : Bool) (a : Addr) (us : List V) (ps : List Pt), vs = [.ref a] ∧ Sq b K H a us ∧ Pts H us ps ∧ 0 < ps.length ∧ ps.length ≤ 1000 ∧
  ∀ H' p ts, Same H H' → H p = none → H' p = some (.lst ts) → Paired (Pair2 H') ts (cyc ps) → Q (.ref p) H'
theorem scPairsOf : FnScope ["corners"] ["corners"] (defScope s_pairs_of) := ⟨rfl, rfl, rfl, by decide +kernel, rfl, by decide +kernel, by decide +kernel⟩
theorem c_pairs_of (B : Bn mg) (F : Has K mg "pairs_of" s_pairs_of ["corners"]) : Cal P w K mg base 1 "pairs_of" (spPairs (K := K)) [] := by
  refine F.cal scPairsOf (fun vs H Q E h => ?_) (fun f cdv A outer s H vs Q E hr h => ?_)
  · obtain ⟨_, _, _, _, rfl, _⟩ := h
    rfl
  · obtain ⟨b, a, us, ps, rfl, hq, hp, h0, h1, k⟩ := h
    have hl := hp.length
    obtain ⟨u0, hu0⟩ : ∃ u, us[0]? = some u := ⟨us[0], by simp⟩
    have fin : ∀ (H1 : Hp) (T : Addr), Same H H1 → H1 T = none → ∀ (H' : Hp) (p : Addr) (ts : List Addr), Same (upd H1 T (.tup (cutV us (some 1) none ++ [u0]))) H' → upd H1 T (.tup (cutV us (some 1) none ++ [u0])) p = none → H' p = some (.lst (ts.map V.ref)) → ts.length = us.length →
        (∀ (j : Nat) (t : Addr), ts[j]? = some t → ∃ x y, us[j]? = some x ∧ (cutV us (some 1) none ++ [u0])[j]? = some y ∧ H' t = some (.tup [x, y])) → Q (.ref p) H' := by
      intro H1 T s1 hT H' p ts s2 hn hp' hts hpr
      have s3 := sameU (o := .tup (cutV us (some 1) none ++ [u0])) s1 hT
      have s4 : Same H H' := fun b u q => s2 b u (s3 b u q)
      have hp2 : Pts H' us ps := Paired.kt pt_kt (same_kt s4) hp
      refine k H' p _ s4 ?_ hp' ?_
      · cases e : H p with
        | none => rfl
        | some o => rw [s3 _ _ e] at hn; cases hn
      · rw [cyc_zip]
        rw [cut1 (by omega), ← take1 hu0] at hpr
        exact zip_pairs hp2 (Paired.app (Paired.drop 1 hp2) (Paired.take 1 hp2)) (by simp; omega) hts hpr
    have ln : (cutV us (some 1) none ++ [u0]).length = us.length := by rw [cut1 (by omega)]; simp; omega
    have lz : (cutV us (some 1) none ++ [u0]).length ≤ sizeLine := by rw [ln, hl]; exact Nat.le_trans h1 (by decide)
    cases b
    · refine ⟨_, (pss_one (ps_ret (pe_listZip rfl (pa_cons (pv 0) (pa_cons (pe_tup (StX.pa_star (pe_slice sl_list (pv 0) (po_some pe_int) po_none) (pa_cons (ixL (pv 0) pe_int) pa_nil))) pa_nil)) (by rfl) B.list (by rfl) B.zip))), ?_⟩
      refine ⟨_, rfl, _, rfl, _, rfl, a, us, rfl, hq, fun l hl' => ?_⟩
      have s1 := sameU (o := .lst (cutV us (some 1) none)) (Same.refl H) hl'
      refine ⟨l, _, rfl, .inr (sql upd_same), ?_⟩
      refine ⟨_, rfl, a, us, _, _, rfl, rfl, Sq.same s1 (b := false) hq, atI_nat hu0, lz, fun T hT => ?_⟩
      have s2 := sameU (o := .tup (cutV us (some 1) none ++ [u0])) s1 hT
      exact ⟨a, T, us, _, rfl, .inl (Sq.same s2 (b := false) hq), .inr (sqt upd_same), ln.symm, fun H' p ts e1 e2 e3 e4 e5 => fin _ T s1 hT H' p ts e1 e2 e3 e4 e5⟩
    · refine ⟨_, (pss_one (ps_ret (pe_listZip rfl (pa_cons (pv 0) (pa_cons (pe_tup (StX.pa_star (pe_slice sl_tup (pv 0) (po_some pe_int) po_none) (pa_cons (ixT (pv 0) pe_int) pa_nil))) pa_nil)) (by rfl) B.list (by rfl) B.zip))), ?_⟩
      refine ⟨_, rfl, _, rfl, _, rfl, a, us, rfl, hq, ?_, fun l hl' => ?_⟩
      · rw [show (some (1 : Int)) = some ((1 : Nat) : Int) from rfl, HT.sIx_nat]
        omega
      have s1 := sameU (o := .tup (cutV us (some 1) none)) (Same.refl H) hl'
      refine ⟨l, _, rfl, .inl (sqt upd_same), ?_⟩
      refine ⟨_, rfl, a, us, _, _, rfl, rfl, Sq.same s1 (b := true) hq, atI_nat hu0, lz, fun T hT => ?_⟩
      have s2 := sameU (o := .tup (cutV us (some 1) none ++ [u0])) s1 hT
      exact ⟨a, T, us, _, rfl, .inr (Sq.same s2 (b := true) hq), .inr (sqt upd_same), ln.symm, fun H' p ts e1 e2 e3 e4 e5 => fin _ T s1 hT H' p ts e1 e2 e3 e4 e5⟩
end
end Bay
namespace Bay
open PySem PySem.Spec PyProof.Rows L2
open C8 (Cal pe_c Mak pe_mk)
theorem mem_pathE : ∀ {l : List Pt} {e : Pt × Pt}, e ∈ pathE l → e.1 ∈ l ∧ e.2 ∈ l
  | [], e, h => by simp [pathE] at h
  | [_], e, h => by simp [pathE] at h
  | a :: b :: t, e, h => by
    rw [pathE] at h
    rcases List.mem_cons.mp h with rfl | h
    · exact ⟨by simp, by simp⟩
    · have := mem_pathE h
      exact ⟨List.mem_cons_of_mem _ this.1, List.mem_cons_of_mem _ this.2⟩
theorem mem_cyc {l : List Pt} {e : Pt × Pt} (h : e ∈ cyc l) : e.1 ∈ l ∧ e.2 ∈ l := by
  cases l with
  | nil => simp [cyc] at h
  | cons x t =>
    have := mem_pathE (show e ∈ pathE (x :: t ++ [x]) from h)
    simp only [List.cons_append, List.mem_cons, List.mem_append, List.not_mem_nil, or_false] at this ⊢
    exact ⟨by rcases this.1 with a | a | a <;> simp [a], by rcases this.2 with a | a | a <;> simp [a]⟩
theorem sum_tsum {α : Type} (f : α → Int) : ∀ l : List α, (l.map f).sum = tsum f l
  | [] => rfl
  | a :: t => by rw [List.map_cons, List.sum_cons, sum_tsum f t]; rfl
theorem mem_at {α : Type} {l : List α} {i : Nat} {a : α} (h : l[i]? = some a) : a ∈ l := List.mem_iff_getElem?.mpr ⟨i, h⟩
section
variable {P : Program} {w : World} {K : PySem.W.Frag} {mg : Str → Option Value} {base : Heap}
theorem tup_ofK {X : Cx} (K : PySem.W.Frag) (h : X.K = K) : CallR X (.type "tuple") (fun xs H Q => ∃ p ys, xs = [.ref p] ∧ ((SqL K H p ys ∧ ∀ l, H l = none → Q (.ref l) (upd H l (.tup ys))) ∨ (SqT K H p ys ∧ Q (.ref p) H))) := h ▸ call_tuple_of
def spSides : Sp := fun vs H Q _ => ∃ (b : Bool) (a : Addr) (us : List V) (ps : List Pt), vs = [.ref a] ∧ Sq b K H a us ∧ Pts H us ps ∧ 0 < ps.length ∧ ps.length ≤ 1000 ∧
  ∀ H' p ts, Same H H' → H p = none → H' p = some (.tup ts) → Pts H' ts (sid ps) → Q (.ref p) H'
theorem cyc_n (l : List Pt) : (cyc l).length = l.length := cyc_len l
theorem scSidesIn : FnScope ["corners", "one", "other"] ["corners"] (defScope s_sides_in) := ⟨rfl, rfl, rfl, by decide +kernel, rfl, by decide +kernel, by decide +kernel⟩
theorem c_sides_in (B : Bn mg) (C_pairs_of : Cal P w K mg base 1 "pairs_of" (spPairs (K := K)) []) (C_way : Cal P w K mg base 1 "way" spWay []) (F : Has K mg "sides_in" s_sides_in ["corners"]) : Cal P w K mg base 2 "sides_in" (spSides (K := K)) [] := by
  refine F.cal scSidesIn (fun vs H Q E h => ?_) (fun f cdv A outer s H vs Q E hr h => ?_)
  · obtain ⟨_, _, _, _, rfl, _⟩ := h
    rfl
  · obtain ⟨b, a, us, ps, rfl, hq, hp, h0, h1, k⟩ := h
    refine ⟨_, (pss_one (ps_ret (pe_callTy call_tuple_of (by rfl) B.tuple (by decide +kernel) (pa_cons (pe_lc (own := [("one", 1), ("other", 2)]) rfl scSidesIn.nd (pi_list (pe_c C_pairs_of hr (by decide) rfl (pa_cons (pv 0) pa_nil))) (blkOk_by (N := ["corners", "one", "other"]) (sc := defScope s_sides_in) (by decide +kernel)) (fun _ _ _ _ _ => (tgk K 2 rfl (pgs_cons (pg_name (i := 1) scSidesIn.nd rfl (Or.inl rfl)) (pgs_cons (pg_name (i := 2) scSidesIn.nd rfl (Or.inl rfl)) pgs_nil)))) (fun _ _ _ _ _ => pts_nil) (fun _ _ _ _ _ => (pe_c C_way hr (by decide) rfl (pa_cons (pv 1) (pa_cons (pv 2) pa_nil))))) pa_nil)))), ?_⟩
    refine ⟨_, rfl, b, a, us, ps, rfl, hq, hp, h0, h1, fun H1 L ts s1 nL eL rL => ?_⟩
    refine ⟨L, rfl, ⟨_, sql eL⟩, fun D hD => ?_⟩
    have hl : (cyc ps).length = ts.length := rL.length.symm
    refine lc_gen (w := walk_list (xs := ts)) (cyc ps) (fun _ => true) wayE IsPt hl (by rw [← hl, cyc_n]; exact Nat.le_trans h1 (by decide)) pt_kt hD (fun H s => sql (s _ _ eL)) (fun i e y H H' Ny Ns ee s Y hy _ => ?_) (fun ys H s e p => ?_)
    · obtain ⟨rfl, ey⟩ := Y
      obtain ⟨y2, ey2, r⟩ := Paired.at2 rL ee
      rw [ey] at ey2
      cases ey2
      obtain ⟨T, u, v, rfl, hT, hu, hv⟩ := r
      refine ⟨T, _, rfl, sqt (s _ _ hT), rfl, _, _, rfl, ?_⟩
      refine ⟨_, _, rfl, ?_⟩
      refine ⟨rfl, rfl, ?_⟩
      refine ⟨_, rfl, _, rfl, u, v, e.1, e.2, rfl, hu.same s, hv.same s, fun q hq => ?_⟩
      exact hy rfl _ _ (sameU (Same.refl _) hq) ⟨q, rfl, upd_same⟩
    · refine ⟨D, ys, rfl, .inl ⟨sql e, fun l hl' => ?_⟩⟩
      have s2 : Same H1 (upd H l (.tup ys)) := sameU s hl'
      refine k _ l ys (fun b u q => s2 _ _ (s1 _ _ q)) ?_ upd_same ?_
      · cases e2 : (_ : Hp) l with
        | none => exact e2
        | some o => rw [s _ _ (s1 _ _ e2)] at hl'; cases hl'
      · rw [filter_yes] at p
        exact Paired.kt pt_kt (same_kt (sameU (Same.refl H) hl')) p
end
end Bay
namespace Bay
open PySem PySem.Spec PyProof.Rows L2
open C8 (Cal pe_c Mak pe_mk)
theorem Sm.mono {b c : Int} {p : Pt} (h : Sm b p) (hb : b ≤ c) : Sm c p := by
  unfold Sm at *
  omega
section
variable {P : Program} {w : World} {K : PySem.W.Frag} {mg : Str → Option Value} {base : Heap}
def spArea : Sp := fun vs H Q _ => ∃ (b : Bool) (a : Addr) (us : List V) (ps : List Pt), vs = [.ref a] ∧ Sq b K H a us ∧ Pts H us ps ∧ 0 < ps.length ∧ ps.length ≤ 1000 ∧ (∀ p ∈ ps, Sm (2 ^ 62) p) ∧ ∀ H', Same H H' → Q (.int (areaL ps)) H'
theorem scAreaIn : FnScope ["corners", "one", "other"] ["corners"] (defScope s_area_in) := ⟨rfl, rfl, rfl, by decide +kernel, rfl, by decide +kernel, by decide +kernel⟩
theorem c_area_in (B : Bn mg) (C_pairs_of : Cal P w K mg base 1 "pairs_of" (spPairs (K := K)) []) (C_cross : Cal P w K mg base 1 "cross" spCross []) (F : Has K mg "area_in" s_area_in ["corners"]) : Cal P w K mg base 2 "area_in" (spArea (K := K)) [] := by
  refine F.cal scAreaIn (fun vs H Q E h => ?_) (fun f cdv A outer s H vs Q E hr h => ?_)
  · obtain ⟨_, _, _, _, rfl, _⟩ := h
    rfl
  · obtain ⟨b, a, us, ps, rfl, hq, hp, h0, h1, sm, k⟩ := h
    refine ⟨_, (pss_one (ps_ret (pe_callB (cr_sum rfl) (by rfl) B.sum (by decide +kernel) (pa_cons (pe_lc (own := [("one", 1), ("other", 2)]) rfl scAreaIn.nd (pi_list (pe_c C_pairs_of hr (by decide) rfl (pa_cons (pv 0) pa_nil))) (blkOk_by (N := ["corners", "one", "other"]) (sc := defScope s_area_in) (by decide +kernel)) (fun _ _ _ _ _ => (tgk K 2 rfl (pgs_cons (pg_name (i := 1) scAreaIn.nd rfl (Or.inl rfl)) (pgs_cons (pg_name (i := 2) scAreaIn.nd rfl (Or.inl rfl)) pgs_nil)))) (fun _ _ _ _ _ => pts_nil) (fun _ _ _ _ _ => (pe_c C_cross hr (by decide) rfl (pa_cons (pv 1) (pa_cons (pv 2) pa_nil))))) pa_nil)))), ?_⟩
    refine ⟨_, rfl, b, a, us, ps, rfl, hq, hp, h0, h1, fun H1 L ts s1 nL eL rL => ?_⟩
    refine ⟨L, rfl, ⟨_, sql eL⟩, fun D hD => ?_⟩
    have hl : (cyc ps).length = ts.length := rL.length.symm
    refine lc_gen (w := walk_list (xs := ts)) (cyc ps) (fun _ => true) (fun e => cr e.1 e.2) IsI hl (by rw [← hl, cyc_n]; exact Nat.le_trans h1 (by decide)) isI_kt hD (fun H s => sql (s _ _ eL)) (fun i e y H H' Ny Ns ee s Y hy _ => ?_) (fun ys H s e p => ?_)
    · obtain ⟨rfl, ey⟩ := Y
      obtain ⟨y2, ey2, r⟩ := Paired.at2 rL ee
      rw [ey] at ey2
      cases ey2
      obtain ⟨T, u, v, rfl, hT, hu, hv⟩ := r
      refine ⟨T, _, rfl, sqt (s _ _ hT), rfl, _, _, rfl, ?_⟩
      refine ⟨_, _, rfl, ?_⟩
      refine ⟨rfl, rfl, ?_⟩
      exact ⟨_, rfl, _, rfl, u, v, e.1, e.2, rfl, hu.same s, hv.same s, (sm _ (mem_cyc (mem_at ee)).1).mono (by decide), hy rfl _ _ (Same.refl _) rfl⟩
    · rw [filter_yes] at p
      refine ⟨D, (cyc ps).map fun e => cr e.1 e.2, rfl, sql (by rw [e, ints_of p]), ?_⟩
      rw [sum_tsum]
      exact k _ (fun b u q => s _ _ (s1 _ _ q))
def spGoes : Sp := fun vs H Q _ => ∃ (u v : V) (a b : Pt), vs = [u, v] ∧ IsPt H u a ∧ IsPt H v b ∧ Sm (2 ^ 64) a ∧ goesOn a b ∧ Q (.bl true) H
theorem scGoesOn : FnScope ["one", "other"] ["one", "other"] (defScope s_goes_on) := ⟨rfl, rfl, rfl, by decide +kernel, rfl, by decide +kernel, by decide +kernel⟩
theorem c_goes_on (C_cross : Cal P w K mg base 1 "cross" spCross []) (F : Has K mg "goes_on" s_goes_on ["one", "other"]) : Cal P w K mg base 2 "goes_on" spGoes [] := by
  refine F.cal scGoesOn (fun vs H Q E h => ?_) (fun f cdv A outer s H vs Q E hr h => ?_)
  · obtain ⟨_, _, _, _, rfl, _⟩ := h
    rfl
  · obtain ⟨u, v, a, b, rfl, hu, hv, sm, hg, k⟩ := h
    refine ⟨_, (pss_one (ps_ret (pe_or (pe_cmpR op_ne (pe_c C_cross hr (by decide) rfl (pa_cons (pv 0) (pa_cons (pv 1) pa_nil))) pe_int (nomark _)) (pe_one (pe_cmpR op_gt (pe_op op_add (pe_op op_mul (ixT (pv 0) pe_int) (ixT (pv 1) pe_int)) (pe_op op_mul (ixT (pv 0) pe_int) (ixT (pv 1) pe_int))) pe_int (nomark _)))))), ?_⟩
    refine ⟨_, rfl, _, rfl, u, v, a, b, rfl, hu, hv, sm, rfl, _, rfl, ite_t (fun _ => k) (fun e => ?_)⟩
    have h0 : cr a b = 0 := by simpa using e
    have h1 : 0 < dt a b := hg.resolve_left fun q => q h0
    refine ⟨_, rfl, hu.i0 ⟨_, rfl, hv.i0 ⟨_, _, rfl, rfl, .inl sm.1, ?_⟩⟩⟩
    refine ⟨_, rfl, hu.i1 ⟨_, rfl, hv.i1 ⟨_, _, rfl, rfl, .inl sm.2, ?_⟩⟩⟩
    refine ⟨_, _, rfl, rfl, ?_⟩
    refine ⟨_, _, rfl, rfl, ?_⟩
    have e2 : decide (0 < a.1 * b.1 + a.2 * b.2) = true := decide_eq_true h1
    rw [← e2] at k
    exact k
def spBox : Sp := fun vs H Q _ => ∃ (u v : V) (a b : Pt), vs = [u, v] ∧ IsPt H u a ∧ IsPt H v b ∧ ∀ p x y z t, H p = none → Q (.ref p) (upd H p (.tup [.int x, .int y, .int z, .int t]))
theorem scBoxOf : FnScope ["one", "other"] ["one", "other"] (defScope s_box_of) := ⟨rfl, rfl, rfl, by decide +kernel, rfl, by decide +kernel, by decide +kernel⟩
theorem c_box_of (B : Bn mg) (F : Has K mg "box_of" s_box_of ["one", "other"]) : Cal P w K mg base 1 "box_of" spBox [] := by
  refine F.cal scBoxOf (fun vs H Q E h => ?_) (fun f cdv A outer s H vs Q E hr h => ?_)
  · obtain ⟨_, _, _, _, rfl, _⟩ := h
    rfl
  · obtain ⟨u, v, a, b, rfl, hu, hv, k⟩ := h
    refine ⟨_, (pss_one (ps_ret (pe_tup (pa_cons (pe_callB (call_min2 rfl) (by rfl) B.min (by decide +kernel) (pa_cons (ixT (pv 0) pe_int) (pa_cons (ixT (pv 1) pe_int) pa_nil))) (pa_cons (pe_callB (call_max2 rfl) (by rfl) B.max (by decide +kernel) (pa_cons (ixT (pv 0) pe_int) (pa_cons (ixT (pv 1) pe_int) pa_nil))) (pa_cons (pe_callB (call_min2 rfl) (by rfl) B.min (by decide +kernel) (pa_cons (ixT (pv 0) pe_int) (pa_cons (ixT (pv 1) pe_int) pa_nil))) (pa_cons (pe_callB (call_max2 rfl) (by rfl) B.max (by decide +kernel) (pa_cons (ixT (pv 0) pe_int) (pa_cons (ixT (pv 1) pe_int) pa_nil))) pa_nil))))))), ?_⟩
    refine ⟨_, rfl, hu.i0 ⟨_, rfl, hv.i0 ⟨_, _, rfl, ?_⟩⟩⟩
    refine ⟨_, rfl, hu.i0 ⟨_, rfl, hv.i0 ⟨_, _, rfl, ?_⟩⟩⟩
    refine ⟨_, rfl, hu.i1 ⟨_, rfl, hv.i1 ⟨_, _, rfl, ?_⟩⟩⟩
    refine ⟨_, rfl, hu.i1 ⟨_, rfl, hv.i1 ⟨_, _, rfl, ?_⟩⟩⟩
    exact ⟨by show 4 ≤ sizeLine; decide, fun p hp => k p _ _ _ _ hp⟩
/-- some bool comes, the heap stays -/
def Any (t : TE) (σ : L2.St) (H : Hp) : Prop := ∀ Q : VK, (∀ z, Q (.bl z) H) → t σ H Q
theorem Any.and {ta tb : TE} {σ : L2.St} {H : Hp} (h1 : Any ta σ H) (h2 : Any tb σ H) : Any (tAndV ta tb) σ H := fun Q hq => h1 _ fun z => ⟨z, rfl, ite_t (fun _ => h2 Q hq) fun _ => hq false⟩
theorem Any.asg {te : TE} {g : TG} {D : Ends} {σ : L2.St} {H : Hp} (h : Any te σ H) (k : ∀ z, g (.bl z) σ H D.nx) : tAsg te g D σ H := h _ k
def IsBox (H : Hp) (v : V) (_ : Pt × Pt) : Prop := ∃ a x y z t, v = .ref a ∧ H a = some (.tup [.int x, .int y, .int z, .int t])
theorem isBox_kt : ∀ H H' v b, Kt H H' → IsBox H v b → IsBox H' v b := fun _ _ _ _ k h => by
  obtain ⟨a, x, y, z, t, e, h⟩ := h
  exact ⟨a, x, y, z, t, e, k _ _ h⟩
/-- the corners of a fence: sides that are no neighbours don't meet -/
def spApIn : Sp := fun vs H Q _ => ∃ (b : Bool) (a : Addr) (us : List V) (ps : List Pt), vs = [.ref a] ∧ Sq b K H a us ∧ Pts H us ps ∧ Fen ps ∧ ps.length ≤ 1000 ∧ (∀ p ∈ ps, Sm (2 ^ 62) p) ∧ ∀ H', Same H H' → Q (.bl true) H'
theorem scAreApartIn : FnScope ["corners", "pairs", "many", "boxes", "one", "other", "at", "spot", "west", "east", "low", "high", "its", "may_meet"] ["corners"] (defScope s_are_apart_in) := ⟨rfl, rfl, rfl, by decide +kernel, rfl, by decide +kernel, by decide +kernel⟩
theorem Sq.len {b : Bool} {H : Hp} {a : Addr} {xs : List V} (h : Sq b K H a xs) : SqL K H a xs ∨ SqT K H a xs := by
  cases b
  · exact .inl h
  · exact .inr h
theorem c_are_apart_in (B : Bn mg) (C_pairs_of : Cal P w K mg base 1 "pairs_of" (spPairs (K := K)) []) (C_box_of : Cal P w K mg base 1 "box_of" spBox []) (C_meet_in : Cal P w K mg base 4 "meet_in" spMeet []) (F : Has K mg "are_apart_in" s_are_apart_in ["corners"]) : Cal P w K mg base 5 "are_apart_in" (spApIn (K := K)) [] := by
  refine F.cal scAreApartIn (fun vs H Q E h => ?_) (fun f cdv A outer s H vs Q E hr h => ?_)
  · obtain ⟨_, _, _, _, rfl, _⟩ := h
    rfl
  · obtain ⟨b, a, us, ps, rfl, hq, hp, hf, h1, sm, k⟩ := h
    refine ⟨_, (pss_cons (ps_par (i := 1) (j := 2) rfl scAreApartIn.nd rfl rfl (by decide) rfl rfl (pa_cons (pe_c C_pairs_of hr (by decide) rfl (pa_cons (pv 0) pa_nil)) (pa_cons (pe_callB call_len_seq (by rfl) B.len (by decide +kernel) (pa_cons (pv 0) pa_nil)) pa_nil)) (by rfl))
 (pss_cons (ps_setLc (i := 3) (own := [("one", 4), ("other", 5)]) rfl scAreApartIn.nd rfl rfl (sw_true rfl rfl rfl (by decide +kernel)) (pi_list (pv 1)) (blkOk_by (N := ["corners", "pairs", "many", "boxes", "one", "other", "at", "spot", "west", "east", "low", "high", "its", "may_meet"]) (sc := defScope s_are_apart_in) (by decide +kernel)) (fun _ _ _ _ _ => (tgk K 2 rfl (pgs_cons (pg_name (i := 4) scAreApartIn.nd rfl (Or.inl rfl)) (pgs_cons (pg_name (i := 5) scAreApartIn.nd rfl (Or.inl rfl)) pgs_nil)))) (fun _ _ _ _ _ => pts_nil) (fun _ _ _ _ _ => (pe_c C_box_of hr (by decide) rfl (pa_cons (pv 4) (pa_cons (pv 5) pa_nil)))))
 (pss_cons (ps_for PassesOwn.never rfl (pi_range1 (by rfl) B.range (pa_cons (pv 2) pa_nil)) (pg_name (i := 6) scAreApartIn.nd rfl (Or.inl rfl))
 (pss_cons (ps_asg (ixL (pv 3) (pv 6)) (pg_tup rfl (pgs_cons (pg_name (i := 8) scAreApartIn.nd rfl (Or.inl rfl)) (pgs_cons (pg_name (i := 9) scAreApartIn.nd rfl (Or.inl rfl)) (pgs_cons (pg_name (i := 10) scAreApartIn.nd rfl (Or.inl rfl)) (pgs_cons (pg_name (i := 11) scAreApartIn.nd rfl (Or.inl rfl)) pgs_nil))))))
 (pss_one (ps_for PassesOwn.never rfl (pi_range2 (by rfl) B.range (pa_cons (pe_op op_add (pv 6) pe_int) (pa_cons (pe_op op_sub (pv 2) (pe_callTy call_int1 (by rfl) B.int (by decide +kernel) (pa_cons (pe_cmpR op_eq (pv 6) pe_int (nomark _)) pa_nil))) pa_nil))) (pg_name (i := 7) scAreApartIn.nd rfl (Or.inl rfl))
 (pss_cons (ps_set (i := 12) scAreApartIn.nd rfl (Or.inl rfl) (ixL (pv 3) (pv 7)))
 (pss_cons (ps_set (i := 13) scAreApartIn.nd rfl (Or.inl rfl) (pe_and (pe_cmpR op_le (pv 8) (ixT (pv 12) pe_int) (nomark _)) (pe_and (pe_cmpR op_le (ixT (pv 12) pe_int) (pv 9) (nomark _)) (pe_and (pe_cmpR op_le (pv 10) (ixT (pv 12) pe_int) (nomark _)) (pe_one (pe_cmpR op_le (ixT (pv 12) pe_int) (pv 11) (nomark _)))))))
 (pss_one (ps_if (PW.pt (pw_and (pt_val (pv 13)) (pw_and1 (pt_val (pe_c C_meet_in hr (by decide) rfl (pa_cons (ixT (ixL (pv 1) (pv 6)) pe_int) (pa_cons (ixT (ixL (pv 1) (pv 6)) pe_int) (pa_cons (ixT (ixL (pv 1) (pv 7)) pe_int) (pa_cons (ixT (ixL (pv 1) (pv 7)) pe_int) pa_nil))))))))) (pss_one (ps_ret pe_bl)) pss_nil))))))))
 (pss_one (ps_ret pe_bl))))), ?_⟩
    have hn3 : 3 ≤ ps.length := hf.s.len
    refine ⟨_, rfl, b, a, us, ps, rfl, hq, hp, by omega, h1, fun H1 L ts s1 nL eL rL => ?_⟩
    refine ⟨_, rfl, a, us, rfl, (Sq.same s1 hq).len, _, _, rfl, ?_⟩
    refine ⟨_, rfl, L, rfl, ⟨_, sql eL⟩, fun D hD => ?_⟩
    have hl : (cyc ps).length = ts.length := rL.length.symm
    have hlu : us.length = ps.length := hp.length
    refine lc_gen (w := walk_list (xs := ts)) (cyc ps) (fun _ => true) id IsBox hl (by rw [← hl, cyc_n]; exact Nat.le_trans h1 (by decide)) isBox_kt hD (fun H s => sql (s _ _ eL)) (fun i e y H H' Ny Ns ee s Y hy _ => ?_) (fun bs H2 s e p => ?_)
    · obtain ⟨rfl, ey⟩ := Y
      obtain ⟨y2, ey2, r⟩ := Paired.at2 rL ee
      rw [ey] at ey2
      cases ey2
      obtain ⟨T, u, v, rfl, hT, hu, hv⟩ := r
      refine ⟨T, _, rfl, sqt (s _ _ hT), rfl, _, _, rfl, ?_⟩
      refine ⟨_, _, rfl, ?_⟩
      refine ⟨rfl, rfl, ?_⟩
      exact ⟨_, rfl, _, rfl, u, v, e.1, e.2, rfl, hu.same s, hv.same s, fun q x y z t hq => hy rfl _ _ (sameU (Same.refl _) hq) ⟨q, x, y, z, t, rfl, upd_same⟩⟩
    · rw [filter_yes, List.map_id] at p
      have s2 : Same H H2 := fun b u q => s _ _ (s1 _ _ q)
      refine ⟨_, rfl, _, rfl, by omega, by omega, ?_⟩
      have en : Int.toNat (us.length : Int) = ps.length := by omega
      rw [en]
      refine for_it (walk_r0 _) (fun i σ H' => Same H2 H' ∧ ∃ o4 o5 o6 o7 o8 o9 o10 o11 o12 o13, σ = [some (.ref a), some (.ref L), some (.int us.length), some (.ref D), o4, o5, o6, o7, o8, o9, o10, o11, o12, o13]) ⟨Same.refl _, _, _, _, _, _, _, _, _, _, _, rfl⟩ (fun _ _ _ _ _ => trivial) (fun i y σ H0 H3 hi q Y => ?_) (fun σ H' q => ?_)
      · obtain ⟨rfl, rfl⟩ := Y
        obtain ⟨s3, o4, o5, o6, o7, o8, o9, o10, o11, o12, o13, rfl⟩ := q
        have hic : i < (cyc ps).length := by rw [cyc_n]; exact hi
        obtain ⟨bi, hbi, Bx⟩ := Paired.at2 p (List.getElem?_eq_getElem hic)
        obtain ⟨T, x, y, z, t, rfl, hT⟩ := Bx
        have e3 := s3 _ _ e
        refine ⟨_, rfl, _, rfl, D, _, _, _, rfl, rfl, sql e3, atI_nat hbi, ?_⟩
        refine ⟨T, _, rfl, sqt (s3 _ _ hT), rfl, _, _, rfl, ?_⟩
        refine ⟨_, _, rfl, ?_⟩
        refine ⟨_, _, rfl, ?_⟩
        refine ⟨_, _, rfl, ?_⟩
        refine ⟨rfl, ?_⟩
        refine ⟨_, rfl, _, _, rfl, rfl, ?_⟩
        refine ⟨_, rfl, _, rfl, rfl, .inr ⟨_, rfl, _, _, rfl, rfl, ?_⟩⟩
        refine ⟨((i + 2 : Nat) : Int), _, rfl, ⟨by omega, by omega, by split <;> omega, by split <;> omega⟩, ?_⟩
        refine for_it (walk_rN _ _) (fun _ σ H' => Same H2 H' ∧ ∃ o4 o5 o7 o12 o13, σ = [some (.ref a), some (.ref L), some (.int us.length), some (.ref D), o4, o5, some (.int i), o7, some (.int x), some (.int y), some (.int z), some (.int t), o12, o13]) ⟨s3, _, _, _, _, _, rfl⟩ (fun _ _ _ _ _ => trivial) (fun j yy σ H0 H4 hj q Y => ?_) (fun σ H' q => ?_)
        · obtain ⟨rfl, rfl⟩ := Y
          obtain ⟨s4, o4, o5, o7, o12, o13, rfl⟩ := q
          have hj1 : i + 2 + j < ps.length := by
            split at hj <;> omega
          have hj2 : i = 0 → i + 2 + j + 1 < ps.length := fun e => by
            subst e
            have e1 : (if decide (V.int ((0 : Nat) : Int) = V.int 0) = true then (1 : Int) else 0) = 1 := rfl
            rw [e1] at hj
            omega
          have hjc : i + 2 + j < (cyc ps).length := by rw [cyc_n]; exact hj1
          obtain ⟨bj, hbj, Bx⟩ := Paired.at2 p (List.getElem?_eq_getElem hjc)
          obtain ⟨T2, x2, y2, z2, t2, rfl, hT2⟩ := Bx
          have e4 := s4 _ _ e
          have hT2 := s4 _ _ hT2
          refine ⟨_, rfl, _, rfl, D, _, _, _, rfl, rfl, sql e4, atI_nat hbj, ?_⟩
          dsimp only [gName, tSeq]
          refine Any.asg (te := tAndV _ (tAndV _ (tAndV _ _))) (Any.and (fun Q hq => ⟨_, rfl, _, rfl, T2, _, _, _, rfl, rfl, sqt hT2, rfl, _, _, rfl, rfl, hq _⟩) (Any.and (fun Q hq => ⟨_, rfl, T2, _, _, _, rfl, rfl, sqt hT2, rfl, _, rfl, _, _, rfl, rfl, hq _⟩) (Any.and (fun Q hq => ⟨_, rfl, _, rfl, T2, _, _, _, rfl, rfl, sqt hT2, rfl, _, _, rfl, rfl, hq _⟩) (fun Q hq => ⟨_, rfl, T2, _, _, _, rfl, rfl, sqt hT2, rfl, _, rfl, _, _, rfl, rfl, hq _⟩)))) (fun mm => ?_)
          refine ⟨_, rfl, _, rfl, ite_t (fun _ => ?_) (fun _ => ?_)⟩
          · have eL4 := s4 _ _ (s _ _ eL)
            obtain ⟨ti, hti, Pi⟩ := Paired.at2 rL (List.getElem?_eq_getElem hic)
            obtain ⟨tj, htj, Pj⟩ := Paired.at2 rL (List.getElem?_eq_getElem hjc)
            obtain ⟨A1, u1, v1, rfl, hA1, hu1, hv1⟩ := Pi
            obtain ⟨A2, u2, v2, rfl, hA2, hu2, hv2⟩ := Pj
            have s5 : Same H1 H4 := fun b u q => s4 _ _ (s _ _ q)
            have hA1 := s5 _ _ hA1
            have hA2 := s5 _ _ hA2
            have g1 := cyc_get (l := ps) hi
            have g2 := cyc_get hj1
            rw [if_neg (by omega), List.getElem?_eq_getElem hic] at g1
            rw [List.getElem?_eq_getElem hjc] at g2
            have g1 := Option.some.inj g1
            have g2 := Option.some.inj g2
            have sep := apart hf (i := i) (j := i + 2 + j) (by omega) hj1 hj2
            have m1 := mem_cyc (List.getElem_mem hic)
            have m2 := mem_cyc (List.getElem_mem hjc)
            rw [g1] at m1 hu1 hv1
            rw [g2] at m2 hu2 hv2
            refine ⟨_, rfl, _, rfl, L, _, _, _, rfl, rfl, sql eL4, atI_nat hti, A1, _, _, _, rfl, rfl, sqt hA1, rfl, ?_⟩
            refine ⟨_, rfl, _, rfl, L, _, _, _, rfl, rfl, sql eL4, atI_nat hti, A1, _, _, _, rfl, rfl, sqt hA1, rfl, ?_⟩
            refine ⟨_, rfl, _, rfl, L, _, _, _, rfl, rfl, sql eL4, atI_nat htj, A2, _, _, _, rfl, rfl, sqt hA2, rfl, ?_⟩
            refine ⟨_, rfl, _, rfl, L, _, _, _, rfl, rfl, sql eL4, atI_nat htj, A2, _, _, _, rfl, rfl, sqt hA2, rfl, ?_⟩
            refine ⟨u1, v1, u2, v2, _, _, _, _, rfl, hu1.same s5, hv1.same s5, hu2.same s5, hv2.same s5, sm _ m1.1, sm _ m1.2, sm _ m2.1, sm _ m2.2, sep, fun H5 s6 => ?_⟩
            exact ⟨_, rfl, ite_t (fun e => nomatch e) fun _ => ⟨fun b u q => s6 _ _ (s4 _ _ q), _, _, _, _, _, rfl⟩⟩
          · exact ⟨s4, _, _, _, _, _, rfl⟩
        · obtain ⟨s4, o4, o5, o7, o12, o13, rfl⟩ := q
          exact ⟨s4, _, _, _, _, _, _, _, _, _, _, rfl⟩
      · obtain ⟨s3, _⟩ := q
        exact k _ (fun b u q => s3 _ _ (s2 _ _ q))
end
end Bay
namespace Bay
open PySem PySem.Spec PyProof.Rows L2
open C8 (Cal pe_c Mak pe_mk)
/-! ## len of a set of tuples -/
def rLenST (P : Program) (w : World) : List V → Hp → VK → Prop := fun xs H Q => ∃ (a : Addr) (L : List (Addr × List Int)), xs = [.ref a] ∧ H a = some (SetTO P w a L) ∧ Q (.int (L.length : Nat)) H
theorem call_lenST {X : Cx} : CallR X (.builtin "len") (rLenST X.prog X.w) := by
  intro pins s σ H xs us Q I r h
  obtain ⟨a, L, rfl, ha, q⟩ := h
  rw [Vals.ref1 r]
  have R0 : SetT0 X.prog X.w s.heap a L := (I.hok a _ ha).1
  obtain ⟨es, ep, t, ⟨o, ho, hex, hd⟩, hr, tb, nd, pl, _, rm, few⟩ := R0.ex
  have hl : es.size = L.length := by
    rw [← Array.length_toList, hr]
    unfold rowsOf
    rw [List.length_map]
  have hf : t.fits es.size = true := by
    have e1 := tb.sz
    rw [List.length_map] at e1
    have e2 : t.place.size = es.size := by omega
    have e3 : t.place.size + 0 ≤ t.mask := by omega
    show (_ && _) = true
    simp only [SetTable.fill, tb.dm, Bool.and_eq_true, beq_iff_eq, decide_eq_true_eq]
    exact ⟨e2, e3⟩
  refine PySem.call_len_set ho hex hd hf (by omega) ⟨.int (L.length : Nat), H, I.tok _, ⟨_, by rw [hl]⟩, q⟩
/-- the addresses of a list of points -/
theorem pts_keys {K : PySem.W.Frag} {H : Hp} : ∀ {us : List V} {ps : List Pt}, Pts H us ps → ∃ ks : List (Addr × List Int), us = ks.map (fun p => V.ref p.1) ∧ (∀ p ∈ ks, SqT K H p.1 (p.2.map V.int)) ∧ ks.map (·.2) = ps.map fun q => [q.1, q.2]
  | _, _, .nil => ⟨[], rfl, (fun _ h => by cases h), rfl⟩
  | _, p :: ps, .cons r t => by
    obtain ⟨a, rfl, e⟩ := r
    obtain ⟨ks, h1, h2, h3⟩ := pts_keys t
    refine ⟨(a, [p.1, p.2]) :: ks, by rw [h1]; rfl, fun q hq => ?_, by rw [List.map_cons, h3]; rfl⟩
    rcases List.mem_cons.mp hq with rfl | hq
    · exact sqt e
    · exact h2 q hq
theorem pair_inj {l : List Pt} (h : l.Nodup) : (l.map fun q : Pt => [q.1, q.2]).Nodup := by
  refine List.Pairwise.map _ (fun a b hab e => hab ?_) h
  simp only [List.cons.injEq, and_true] at e
  exact Prod.ext e.1 e.2
theorem sub_len {α : Type} [DecidableEq α] : ∀ {l m : List α}, l.Nodup → (∀ x ∈ l, x ∈ m) → l.length ≤ m.length
  | [], _, _, _ => Nat.zero_le _
  | a :: t, m, hn, hs => by
    have ha : a ∈ m := hs a (List.mem_cons_self ..)
    have hn' := List.nodup_cons.mp hn
    have ih := sub_len (l := t) (m := m.erase a) hn'.2 fun x hx => (List.mem_erase_of_ne (fun e => hn'.1 (by rw [← e]; exact hx))).mpr (hs x (List.mem_cons_of_mem _ hx))
    rw [List.length_erase_of_mem ha] at ih
    have := List.length_pos_of_mem ha
    simp only [List.length_cons]
    omega
end Bay
namespace Bay
open PySem PySem.Spec PyProof.Rows L2
open C8 (Cal pe_c Mak pe_mk)
/-! ## range with a step as an argument: list(range(a, b, c)), zip(range(a, b, c), y) -/
section
variable {prog : Program} {w : World} {A : Around}
theorem draws_range (hh : A.handled = none) (it : Addr) (a c : Int) (n : Nat) : Draws prog w A it [it] n (fun i v => ∃ t, v = .int (a + (i : Nat) * c) t) (fun i h => IsRangeIter h it (a + (i : Nat) * c) ((n : Int) - (i : Nat)) c) where
  live := fun _ _ st => ⟨_, st⟩
  frame := fun _ _ _ st hk => hk it (by simp) _ st
  item := fun i s Q E hi st hQ => by
    unfold Builtin.SmallTypes.nextOf
    refine wpAny_bind (CpRep.range_item st (by omega) fun h' st' sb => wpAny_pure (hQ _ h' _ ⟨_, rfl⟩ ?_ sb))
    have e1 : a + (i : Nat) * c + c = a + ((i + 1 : Nat) : Int) * c := by rw [Int.natCast_add, Int.add_mul]; omega
    have e2 : (n : Int) - (i : Nat) - 1 = (n : Int) - ((i + 1 : Nat) : Int) := by omega
    rw [e1, e2] at st'
    exact st'
  done := fun s Q E st hE => by
    unfold Builtin.SmallTypes.nextOf
    refine wpAny_bind (CpRep.range_end hh st (by omega) fun e h' he eb => ?_)
    obtain ⟨b, o, m, q1, q2, q3, _⟩ := he
    subst q1
    exact hE h' _ eb ⟨_, q2, q3⟩
theorem begins_range {r : Addr} {a b c : Int} {t u v : Tok} {n : Nat} (h2 : Builtin.Range.small a b c = true) (h3 : Builtin.Range.rangeSize a b c = n) :
    Begins (.ref r) { cls := .type "range_iterator", data := .fields #[rawInt a, rawInt n, rawInt c] } fun h => IsRange h r a b c t u v where
  iter := fun prog w A E s Q hr h => wpAny_pyIter_range hr h2 (by rw [h3]; exact h)
  keeps := fun h h' x hk => hk r _ x
  free := rfl
end
/-- lo, lo + c, .. -/
def rcV (a c : Int) (n : Nat) : List V := (List.range n).map fun i => V.int (a + (i : Nat) * c)
theorem rcV_length (a c : Int) (n : Nat) : (rcV a c n).length = n := by unfold rcV; rw [List.length_map, List.length_range]
theorem rcV_at {a c : Int} {n i : Nat} (h : i < n) : (rcV a c n)[i]? = some (.int (a + (i : Nat) * c)) := by
  unfold rcV
  rw [List.getElem?_map, List.getElem?_range h]
  rfl
theorem vals_rc {a c : Int} {n : Nat} {acc : Array Value} (h : ItemsOf (fun i v => ∃ t, v = .int (a + i * c) t) acc n) : Vals (rcV a c n) acc.toList := by
  have e : acc.toList.length = n := by rw [Array.length_toList]; exact h.1
  unfold rcV
  rw [← e]
  refine vals_of_get acc.toList _ fun j u hj => ?_
  obtain ⟨t, rfl⟩ := h.2 j u (by rw [← hj, Array.getElem?_toList])
  exact ⟨t, rfl⟩
section
variable {X : Cx}
/-- an expression that makes a new range a, a + c, .. (n of them) -/
def PRc (X : Cx) (e : Expr) (t : L2.St → Hp → (Int → Int → Nat → Hp → Prop) → Prop) : Prop :=
  ∀ (pins : List (Addr × Obj)) (s : Shared) (σ : L2.St) (H : Hp) (Q : Int → Int → Nat → Hp → Prop), Inv X pins σ H s → t σ H Q →
    wpAny (model X.prog X.w) X.A (eval e X.env) (fun x s' => ∃ r a b c n t u v H', x = .ref r ∧ IsRange s'.heap r a b c t u v ∧ RgC a b c n ∧ H' r = none ∧ r ≠ X.env.locals ∧ r ∉ X.fs ∧ Inv X pins σ H' s' ∧ Q a c n H') X.xe s
def tRc (ta : TA) : L2.St → Hp → (Int → Int → Nat → Hp → Prop) → Prop := fun σ H Q => ta σ H fun vs H1 => ∃ (i j c : Int) (n : Nat), vs = [.int i, .int j, .int c] ∧ RgC i j c n ∧ Q i c n H1
theorem prc_3 {a b c : Expr} {ta : TA} {p pos : Pos} (hg : Gl X "range") (hm : X.mg "range" = none) (ha : PA X [a, b, c] ta)
    (hs : starEach [a, b, c] X.env = (false, eval a X.env) :: starEach [b, c] X.env := by rfl) (hpl : (backTo pos (starEach [b, c] X.env)).any (·.1) = false := by rfl) :
    PRc X (.Call (.Name "range" p) [a, b, c] [] pos) (tRc ta) := by
  intro pins s σ H Q I h
  refine Call_ (ld_blt I hg hm boot_range (PyProof.Rows.callWith_type1 (thn (ha.run pos pins s σ H _ I h) fun us s1 ⟨vs, H1, I1, r1, q1⟩ => ?_) hs hpl))
  obtain ⟨i, j, k, n, e, rg, q⟩ := q1
  subst e
  cases r1 with
  | cons r rr =>
    cases rr with
    | cons r' rr =>
      cases rr with
      | cons r'' rr =>
        cases rr
        obtain ⟨t, rfl⟩ := r
        obtain ⟨t', rfl⟩ := r'
        obtain ⟨t'', rfl⟩ := r''
        refine call_range_3 rg.1 ?_ (.inl (PyProof.noPylong_small rg.2.1))
        exact ⟨_, i, j, k, n, _, _, _, H1, rfl, IsRange.new .., rg, I1.hok.fresh (Nat.le_refl _), Nat.ne_of_gt I1.lt, I1.nofs (Nat.le_refl _), I1.kept (t' := s1.toks) fun b o e => Heap.get?_push_of_some _ e, q⟩
def tLstRc (te : L2.St → Hp → (Int → Int → Nat → Hp → Prop) → Prop) : TE := fun σ H Q => te σ H fun a c n H1 => n ≤ 1000 ∧ ∀ q, H1 q = none → Q (.ref q) (upd H1 q (.lst (rcV a c n)))
theorem pe_listRc {e : Expr} {te : L2.St → Hp → (Int → Int → Nat → Hp → Prop) → Prop} {p pos : Pos} (hc : X.calm = true) (hg : Gl X "list") (hm : X.mg "list" = none) (he : PRc X e te) (na : starEach [e] X.env = (false, eval e X.env) :: starEach [] X.env := by rfl) : PE X (.Call (.Name "list" p) [e] [] pos) (tLstRc te) := by
  refine ⟨fun pins s σ H Q I h => ?_⟩
  refine Call_ (ld_blt I hg hm boot_list (PyProof.Rows.callWith_type1 (args_cons (thn (he pins s σ H _ I h) fun x s1 ⟨r, a, b, c, n, t, u, v, H1, ex, hr, rg, n1, n2, n3, I1, hn, q⟩ => args_nil ?_) na) na))
  subst ex
  have h24 : n ≤ 2 ^ 24 := Nat.le_trans hn (by decide)
  refine call_list_range (n := n) (I1.ok.hd hc) hr rg.2.2.1 rg.2.2.2 h24 fun h' tk acc c' hk e' hi => ?_
  refine ⟨.ref s1.heap.objs.size, upd H1 s1.heap.objs.size (.lst (rcV a c n)), I1.laid hk (Nat.le_refl _) (show ObjOk X.prog X.w _ _ _ (.lst (rcV a c n)) from ⟨?_, acc.toList, c', vals_rc hi, ?_⟩), rfl, q _ (I1.hok.fresh (Nat.le_refl _))⟩
  · rw [rcV_length, sizeLine_eq]; omega
  · rw [Array.toArray_toList]; exact e'
def ItzR (K : PySem.W.Frag) (lo c : Int) (n : Nat) (b2 : Bool) (b : Addr) : It where
  go := fun i H => i < n ∧ ∃ (ys : List V) (y : V), Sq b2 K H b ys ∧ ys[i]? = some y
  yld := fun i H v H' => ∃ T y, v = .ref T ∧ H T = none ∧ H' = upd H T (.tup [.int (lo + (i : Nat) * c), y]) ∧ ∀ ys, Sq b2 K H b ys → ys[i]? = some y
  stop := fun i H => i = n ∧ ∃ ys : List V, Sq b2 K H b ys ∧ ys.length = i
theorem turn_zipR {P : Program} {w : World} {K : PySem.W.Frag} {elts : List Expr} {kk : Nat} {tpos : Pos} {lo c : Int} {n : Nat} {b2 : Bool} {b z TI TO i1 i2 : Addr} (S : ZipSep2 z TI TO i1 i2 [i1] [i2, b]) (n2 : b ≠ i2) :
    Turn P w K (.Tuple elts kk tpos) (ItzR K lo c n b2 b) [z, TI, TO, i1, i2] z (fun i h => IsZip h z TI TO .none ∧ IsTupOf2 h TI (.ref i1) (.ref i2) ∧ (∃ x y, IsTupOf2 h TO x y) ∧ IsRangeIter h i1 (lo + (i : Nat) * c) ((n : Int) - (i : Nat)) c ∧ Cur b2 h i2 b i) := by
  refine ⟨by simp, fun i h st d hd => ?_, fun i h h' st k => ?_, ?_, ?_, fun A i s Q E st h => wpAny_pyIter_zip st.1 h⟩
  · obtain ⟨hz, hTI, ⟨x, y, hTO⟩, c1, c2⟩ := st
    simp only [List.mem_cons, List.not_mem_nil, or_false] at hd
    rcases hd with q | q | q | q | q
    · subst q; exact ⟨_, hz, fun v q => nomatch q⟩
    · subst q; exact ⟨_, hTI, fun v q => nomatch q⟩
    · subst q; exact ⟨_, hTO, fun v q => nomatch q⟩
    · subst q; exact ⟨_, c1, fun v q => nomatch q⟩
    · subst q; exact c2.ob
  · obtain ⟨hz, hTI, ⟨x, y, hTO⟩, c1, c2⟩ := st
    exact ⟨k z (by simp) _ hz, k TI (by simp) _ hTI, ⟨x, y, k TO (by simp) _ hTO⟩, k i1 (by simp) _ c1, c2.keep fun o q => k i2 (by simp) o q⟩
  · intro X hP hw hK hc i pins s σ H E I hf st hg
    subst hP hw hK
    obtain ⟨hz, hTI, ⟨x0, y0, hTO⟩, c1, c2⟩ := st
    obtain ⟨hi, ys, y, hqy, hy⟩ := hg
    have hh := I.ok.hd hc
    have D1 := draws_range (prog := X.prog) (w := X.w) (A := X.A.in1) hh i1 lo c n
    obtain ⟨ws, S2, rw', D2, f2, g2⟩ := hqy.draw I n2 (A := X.A.in1) hh
    obtain ⟨u2, hu2, ru2⟩ := rw'.get hy
    have l2 := (List.getElem?_eq_some_iff.mp hu2).1
    have zl : z < s.heap.objs.size := Heap.lt_size hz
    refine wpAny_pyNext_zipD2_item S D1 D2 hz hTI hTO c1 (f2 _ c2) hi l2 fun x1 x2 h' tk p1 p2 z' TO' s1 s2 hT hsz hk => ?_
    obtain ⟨tk1, rfl⟩ := p1
    rw [hu2] at p2
    cases p2
    refine ⟨_, rfl, wpAny_letOwnedTupleGo_zip (s := { s with heap := h', toks := tk }) z' fun h2 z2 sb => ?_⟩
    have keep : ∀ d o, d ∉ [z, TI, TO, i1, i2] → s.heap.get? d = some o → h2.get? d = some o := fun d o hb q => by
      simp only [List.mem_cons, List.not_mem_nil, or_false, not_or] at hb
      exact (sb.2 d hb.1).trans (hk d o hb.1 hb.2.2.1 hb.2.2.2.1 hb.2.2.2.2 q)
    have hT2 : h2.get? s.heap.objs.size = some { cls := .type "tuple", data := .seq #[.int (lo + (i : Nat) * c) tk1, u2] } := (sb.2 _ (Nat.ne_of_gt zl)).trans hT
    have new : ObjOk X.prog X.w (upd H s.heap.objs.size (.tup [.int (lo + (i : Nat) * c), y])) h2 s.heap.objs.size (.tup [.int (lo + (i : Nat) * c), y]) := by
      refine ⟨?_, [.int (lo + (i : Nat) * c) tk1, u2], Paired.cons ⟨tk1, rfl⟩ (Paired.cons ru2 .nil), _, hT2, rfl, _, rfl⟩
      exact (by decide : 2 ≤ sizeLine)
    have J : Inv X pins σ (upd H s.heap.objs.size (.tup [.int (lo + (i : Nat) * c), y])) { s with heap := h2, toks := tk } := I.turnedNew (t' := tk) keep hf (Nat.le_refl _) new
    refine ⟨.ref s.heap.objs.size, _, J, rfl, ⟨_, y, rfl, I.hok.fresh (Nat.le_refl _), rfl, fun l hl => (Sq.inj I hl hqy).symm ▸ hy⟩, ⟨z2, ?_, ⟨.int (lo + (i : Nat) * c) tk1, u2, ?_⟩, ?_, ?_⟩, fun d hcm => ?_⟩
    · exact (sb.2 _ S.TIz).trans (hk _ _ S.TIz S.TITO S.TIi1 S.TIi2 hTI)
    · exact (sb.2 _ S.TOz).trans TO'
    · exact (sb.2 _ (Ne.symm S.zi1)).trans s1
    · exact (g2 _ _ s2).keep fun o q => (sb.2 _ (Ne.symm S.zi2)).trans q
    · have hlt : d < s.heap.objs.size := by
        simp only [List.mem_cons, List.not_mem_nil, or_false] at hcm
        rcases hcm with q | q | q | q | q
        · rw [q]; exact zl
        · rw [q]; exact Heap.lt_size hTI
        · rw [q]; exact Heap.lt_size hTO
        · rw [q]; exact Heap.lt_size c1
        · rw [q]; obtain ⟨_, e, _⟩ := c2.ob; exact Heap.lt_size e
      rw [upd_ne (Nat.ne_of_lt hlt)]
      exact (hf d hcm).1
  · intro X hP hw hK hc i pins s σ H E I hf st hg
    subst hP hw hK
    obtain ⟨hz, hTI, ⟨x0, y0, hTO⟩, c1, c2⟩ := st
    obtain ⟨rfl, ys, hqy, e2⟩ := hg
    have hh := I.ok.hd hc
    have D1 := draws_range (prog := X.prog) (w := X.w) (A := X.A.in1) hh i1 lo c i
    obtain ⟨ws, S2, rw', D2, f2, g2⟩ := hqy.draw I n2 (A := X.A.in1) hh
    have l2 := rw'.length
    refine wpAny_pyNext_zipD2_end S D1 D2 hz hTI hTO c1 (f2 _ c2) (Nat.le_refl _) (by omega) (.inl rfl) fun h' tk hk => ⟨rfl, ?_⟩
    refine I.turnedL (t' := tk) (ch := [z, TI, TO, i1, i2]) (fun d o hb q => ?_) hf
    simp only [List.mem_cons, List.not_mem_nil, or_false, not_or] at hb
    exact hk d o hb.1 hb.2.2.1 hb.2.2.2.1 hb.2.2.2.2 q
def tiZipR (K : PySem.W.Frag) (b2 : Bool) (te : L2.St → Hp → (Int → Int → Nat → Hp → Prop) → Prop) (t2 : TE) : TI := fun σ H R => te σ H fun lo c n H1 => t2 σ H1 fun v H2 => ∃ b ys, v = .ref b ∧ Sq b2 K H2 b ys ∧ R (ItzR K lo c n b2 b) H2
theorem pi_zipR (b2 : Bool) {e e2 : Expr} {te : L2.St → Hp → (Int → Int → Nat → Hp → Prop) → Prop} {t2 : TE} {p pos tpos : Pos} {elts : List Expr} {kk : Nat} (hg : Gl X "zip") (hm : X.mg "zip" = none) (he : PRc X e te) (h2 : PE X e2 t2)
    (na : starEach [e, e2] X.env = (false, eval e X.env) :: starEach [e2] X.env := by rfl) (nb : starEach [e2] X.env = (false, eval e2 X.env) :: starEach [] X.env := by rfl) (hp : (backTo pos (starEach [e2] X.env)).any (·.1) = false := by rfl) :
    PI X (.Tuple elts kk tpos) (.Call (.Name "zip" p) [e, e2] [] pos) (tiZipR X.K b2 te t2) := by
  refine ⟨fun pins s σ H R I h => ?_⟩
  refine Call_ (ld_blt I hg hm PyProof.Rows.boot_zip (PyProof.Rows.callWith_type1 (args_cons (thn (he pins s σ H _ I h) fun x s1 ⟨r, a, b, c, n, t, u, v, H1, ex, hr, rg, n1, n2, n3, I1, q1⟩ => ?_) na) na hp))
  subst ex
  have I1' : Inv X (pins ++ [(r, { cls := .type "range", dict := none, data := .fields #[.int a t, .int b u, .int c v], slots := #[] })]) σ H1 s1 := I1.pins_of fun p hp => (List.mem_append.mp hp).elim (fun z => I1.pin p (List.mem_append_right _ z)) fun z => by
    obtain rfl := List.mem_singleton.mp z
    exact ⟨hr, n1, n2, n3, fun v z => nomatch z⟩
  refine one_arg h2 I1' q1 (fun y s2 yv H2 I2 r2 q => ?_) nb
  obtain ⟨d, ys, rfl, qb, q⟩ := q
  cases (show y = Value.ref d from r2)
  have hr2 : IsRange s2.heap r a b c t u v := (I2.pin _ (List.mem_append_right _ (List.mem_append_right _ (.head _)))).1
  have I3 : Inv X pins σ H2 s2 := I2.unpinned
  have B1 := begins_range (r := r) (t := t) (u := u) (v := v) rg.2.2.1 rg.2.2.2
  obtain ⟨o2, G2, lb, B2, h2, c2⟩ := qb.begin I3
  refine zip_begins2 B1 B2 hr2 h2 fun h' hz hTI hTO ho1 ho2 hsz hk => wpAny_pyIter_zip hz ?_
  have J : Inv X pins σ H2 { s2 with heap := h' } := I3.kept (t' := s2.toks) hk
  have S := zip_sep2 (N := s2.heap.objs.size) (fp1 := []) (fp2 := [d]) (fun c hc => by cases hc) (fun c hc => by rw [List.mem_singleton.mp hc]; exact lb)
  have e1 : a + ((0 : Nat) : Int) * c = a := by simp
  have e2 : (n : Int) - ((0 : Nat) : Int) = n := by simp
  refine ⟨_, _, _, _, H2, rfl, J, turn_zipR (lo := a) (c := c) (n := n) S (Nat.ne_of_lt (Nat.lt_succ_of_lt lb)), ⟨hz, hTI, ⟨_, _, hTO⟩, by rw [e1, e2]; exact ho1, c2 _ _ ho2⟩, fun c hc => ?_, q⟩
  have hle : s2.heap.objs.size ≤ c := by
    simp only [List.mem_cons, List.not_mem_nil, or_false] at hc
    rcases hc with z | z | z | z | z
    all_goals
      rw [z]
      first
        | exact Nat.le_refl _
        | exact Nat.le_add_right _ _
  exact I3.fpOk hle (I3.hok.fresh hle)
theorem walk_zipR {K : PySem.W.Frag} {lo c : Int} {n : Nat} {b2 : Bool} {b : Addr} {ys : List V} (e : ys.length = n) : Walk (ItzR K lo c n b2 b) n (fun H => Sq b2 K H b ys) (YPair (fun i => some (.int (lo + (i : Nat) * c))) (fun i => ys[i]?)) := by
  refine ⟨fun i H hi q => ⟨hi, ys, ys[i]'(e.symm ▸ hi), q, by simp [e.symm ▸ hi]⟩, fun H q => ⟨rfl, ys, q, e⟩, fun i H v H' _ q y => ?_⟩
  obtain ⟨T, z, h1, h2, h3, h5⟩ := y
  exact ⟨T, _, z, h1, h2, h3, rfl, h5 ys q⟩
end
theorem _root_.L2.Room.units65 {k : Nat} {A : Around} (r : Room k A) : A.units + 65 < cLine := by have := r.un; omega
theorem tCons_i {ta : TE} {tr : TA} {σ : L2.St} {H : Hp} {Q : List V → Hp → Prop} (h : ta σ H fun x H1 => tr σ H1 fun xs H2 => Q (x :: xs) H2) : tCons ta tr σ H Q := h
theorem tLst_i {t : TA} {σ : L2.St} {H : Hp} {Q : V → Hp → Prop} (h : t σ H fun xs H1 => xs.length ≤ sizeLine ∧ ∀ p, H1 p = none → Q (.ref p) (upd H1 p (.lst xs))) : tLst t σ H Q := h
/-- found.append(e) -/
theorem app_t {K : PySem.W.Frag} {E : Ends} {σ : L2.St} {H : Hp} {D : Addr} {vs : List V} {i : Nat} {ta : TE} (h1 : σ[i]? = some (some (.ref D))) (e : H D = some (.lst vs)) (hz : vs.length < sizeLine)
    (k : ta σ H fun x H1 => H1 D = some (.lst vs) ∧ E.nx σ (upd H1 D (.lst (vs ++ [x])))) (mono : ∀ Q Q' : V → Hp → Prop, (∀ x H1, Q x H1 → Q' x H1) → ta σ H Q → ta σ H Q') : tDrop (tBM K "list" rAppend (tVar i) (tCons ta tNil)) E σ H :=
  ⟨_, h1, .inl ⟨rfl, _, sql e⟩, mono _ _ (fun x H1 ⟨e1, q⟩ => ⟨D, vs, x, rfl, rfl, e1, hz, q⟩) k⟩
/-- found.append(x) -/
theorem app_v {K : PySem.W.Frag} {E : Ends} {σ : L2.St} {H : Hp} {D : Addr} {vs : List V} {x : V} {i j : Nat} (h1 : σ[i]? = some (some (.ref D))) (h2 : σ[j]? = some (some x)) (e : H D = some (.lst vs)) (hz : vs.length < sizeLine)
    (k : E.nx σ (upd H D (.lst (vs ++ [x])))) : tDrop (tBM K "list" rAppend (tVar i) (tCons (tVar j) tNil)) E σ H :=
  ⟨_, h1, .inl ⟨rfl, _, sql e⟩, _, h2, D, vs, x, rfl, rfl, e, hz, k⟩
end Bay
namespace Bay
open PySem PySem.Spec PyProof.Rows L2
open C8 (Cal pe_c Mak pe_mk)
section
variable {P : Program} {w : World} {K : PySem.W.Frag} {mg : Str → Option Value} {base : Heap}
def spCors : Sp := fun vs H Q _ => ∃ (a : Addr) (us : List V) (ps : List Pt), vs = [.ref a] ∧ H a = some (.lst us) ∧ Pts H us ps ∧ Fen ps ∧ ps.length < 64 ∧ (∀ p ∈ ps, Sm (2 ^ 60) p) ∧ ∀ H', Same H H' → Q (.bl true) H'
theorem scAreCorners : FnScope ["value", "each", "corners", "sides", "one", "other"] ["value"] (defScope s_are_corners) := ⟨rfl, rfl, rfl, by decide +kernel, rfl, by decide +kernel, by decide +kernel⟩
theorem c_are_corners (B : Bn mg) (hL : ∃ t, mg "LEAST_CORNERS" = some (.int 3 t)) (hM : ∃ t, mg "MOST_CORNERS" = some (.int 400 t)) (C_is_point : Cal P w K mg base 2 "is_point" spIsPoint []) (C_pairs_of : Cal P w K mg base 1 "pairs_of" (spPairs (K := K)) []) (C_area_in : Cal P w K mg base 2 "area_in" (spArea (K := K)) [])
    (C_sides_in : Cal P w K mg base 2 "sides_in" (spSides (K := K)) []) (C_goes_on : Cal P w K mg base 2 "goes_on" spGoes []) (C_are_apart_in : Cal P w K mg base 5 "are_apart_in" (spApIn (K := K)) []) (F : Has K mg "are_corners" s_are_corners ["value"]) : Cal P w K mg base 6 "are_corners" spCors [] := by
  obtain ⟨tL, hL⟩ := hL
  obtain ⟨tM, hM⟩ := hM
  refine F.cal scAreCorners (fun vs H Q E h => ?_) (fun f cdv A outer s H vs Q E hr h => ?_)
  · obtain ⟨_, _, _, rfl, _⟩ := h
    rfl
  · obtain ⟨a, us, ps, rfl, ha, hp, hf, h1, sm, k⟩ := h
    refine ⟨_, (pss_cons (ps_if (PW.pt (pw_or (pt_not (pt_val (pe_callB call_isiT (by rfl) B.isinstance (by decide +kernel) (pa_cons (pv 0) (pa_cons (pe_tup (pa_cons (pe_bltn (by rfl) B.list (by decide +kernel) (v := .ty "list") rfl) (pa_cons (pe_bltn (by rfl) B.tuple (by decide +kernel) (v := .ty "tuple") rfl) pa_nil))) pa_nil))))) (pw_or1 (pt_not (pt_chain op_le op_le (pe_glob (by rfl) hL (v := .int 3) ⟨_, rfl⟩) (pe_callB call_len_seq (by rfl) B.len (by decide +kernel) (pa_cons (pv 0) pa_nil)) (pe_glob (by rfl) hM (v := .int 400) ⟨_, rfl⟩)))))) (pss_one (ps_ret pe_bl)) pss_nil)
 (pss_cons (ps_if (pt_not (pt_val (pe_callB (cr_all rfl) (by rfl) B.all (by decide +kernel) (pa_cons (pe_lc (own := [("each", 1)]) rfl scAreCorners.nd (pi_list (pv 0)) (blkOk_by (N := ["value", "each", "corners", "sides", "one", "other"]) (sc := defScope s_are_corners) (by decide +kernel)) (fun _ _ _ _ _ => (pg_name (i := 1) scAreCorners.nd rfl (Or.inl rfl))) (fun _ _ _ _ _ => pts_nil) (fun _ _ _ _ _ => (pe_c C_is_point hr (by decide) rfl (pa_cons (pv 1) pa_nil)))) pa_nil)))) (pss_one (ps_ret pe_bl)) pss_nil)
 (pss_cons (ps_setLc (i := 2) (own := [("each", 1)]) rfl scAreCorners.nd rfl rfl (sw_true rfl rfl rfl (by decide +kernel)) (pi_list (pv 0)) (blkOk_by (N := ["value", "each", "corners", "sides", "one", "other"]) (sc := defScope s_are_corners) (by decide +kernel)) (fun _ _ _ _ _ => (pg_name (i := 1) scAreCorners.nd rfl (Or.inl rfl))) (fun _ _ _ _ _ => pts_nil) (fun _ _ _ _ _ => (pe_callTy (tup_ofK K rfl) (by rfl) B.tuple (by decide +kernel) (pa_cons (pv 1) pa_nil))))
 (pss_cons (ps_if (PW.pt (pw_or (pt_cmpR op_lt (pe_callB call_lenST (by rfl) B.len (by decide +kernel) (pa_cons (pe_callTy (cr_setOfT rfl hr.units) (by rfl) B.set (by decide +kernel) (pa_cons (pv 2) pa_nil)) pa_nil)) (pe_callB call_len_seq (by rfl) B.len (by decide +kernel) (pa_cons (pv 2) pa_nil)) (nomark _)) (pw_or1 (pt_cmpR op_le (pe_c C_area_in hr (by decide) rfl (pa_cons (pv 2) pa_nil)) pe_int (nomark _))))) (pss_one (ps_ret pe_bl)) pss_nil)
 (pss_cons (ps_set (i := 3) scAreCorners.nd rfl (Or.inl rfl) (pe_c C_sides_in hr (by decide) rfl (pa_cons (pv 2) pa_nil)))
 (pss_one (ps_ret (pe_and (pe_callB (cr_all rfl) (by rfl) B.all (by decide +kernel) (pa_cons (pe_lc (own := [("one", 4), ("other", 5)]) rfl scAreCorners.nd (pi_list (pe_c C_pairs_of hr (by decide) rfl (pa_cons (pv 3) pa_nil))) (blkOk_by (N := ["value", "each", "corners", "sides", "one", "other"]) (sc := defScope s_are_corners) (by decide +kernel)) (fun _ _ _ _ _ => (tgk K 2 rfl (pgs_cons (pg_name (i := 4) scAreCorners.nd rfl (Or.inl rfl)) (pgs_cons (pg_name (i := 5) scAreCorners.nd rfl (Or.inl rfl)) pgs_nil)))) (fun _ _ _ _ _ => pts_nil) (fun _ _ _ _ _ => (pe_c C_goes_on hr (by decide) rfl (pa_cons (pv 4) (pa_cons (pv 5) pa_nil))))) pa_nil)) (pe_one (pe_c C_are_apart_in hr (by decide) rfl (pa_cons (pv 2) pa_nil))))))))))), ?_⟩
    have hn3 : 3 ≤ ps.length := hf.s.len
    have hlu : us.length = ps.length := hp.length
    -- the kinds and the count
    refine ⟨_, rfl, by show 2 ≤ sizeLine; decide, fun T hT => ?_⟩
    have s1 := sameU (o := .tup [.ty "list", .ty "tuple"]) (Same.refl H) hT
    have ha1 := s1 _ _ ha
    refine ⟨_, T, _, _, _, true, rfl, upd_same, .cons (.ty "list") (.cons (.ty "tuple") .nil), .base (.lst ha1), rfl, _, rfl, ?_⟩
    refine ite_t (fun e => nomatch e) (fun _ => ?_)
    refine ⟨_, rfl, a, us, rfl, .inl (sql ha1), _, _, rfl, rfl, ?_⟩
    refine ⟨_, rfl, ite_t (fun _ => ?_) (fun e => ?_)⟩
    case refine_2 =>
      have e := of_decide_eq_false e
      omega
    refine ⟨_, _, rfl, rfl, _, rfl, ?_⟩
    have e0 : decide ((us.length : Int) ≤ 400) = true := decide_eq_true (by omega)
    refine ite_t (fun e => ?_) (fun _ => ?_)
    · have e : (!decide ((us.length : Int) ≤ 400)) = true := e
      rw [e0] at e
      cases e
    -- each is a point
    refine ⟨_, rfl, a, rfl, ⟨_, sql ha1⟩, fun D hD => ?_⟩
    have p1 : Pts _ us ps := Paired.kt pt_kt (same_kt s1) hp
    refine lc_gen (w := walk_list (xs := us)) ps (fun _ => true) (fun _ => true) IsB hlu.symm (by rw [hlu]; exact Nat.le_trans (Nat.le_of_lt h1) (by decide)) isB_kt hD (fun H s => sql (s _ _ ha1)) (fun i e y H H' Ny Ns ee s Y hy _ => ?_) (fun ys H2 s e p => ?_)
    · obtain ⟨rfl, ey⟩ := Y
      obtain ⟨y2, ey2, r⟩ := Paired.at2 p1 ee
      rw [ey] at ey2
      cases ey2
      refine ⟨rfl, _, rfl, y, e, rfl, r.same s, fun H5 s5 => hy rfl _ _ s5 rfl⟩
    rw [filter_yes] at p
    refine ⟨D, ps.map fun _ => true, rfl, sql (by rw [e, bools_of p]), _, rfl, ?_⟩
    rw [show ((ps.map fun _ => true).all id) = true by simp]
    refine ite_t (fun e => nomatch e) (fun _ => ?_)
    -- the corners
    have s2 : Same H H2 := fun b u q => s _ _ (s1 _ _ q)
    have ha2 := s2 _ _ ha
    have p2 : Pts _ us ps := Paired.kt pt_kt (same_kt s2) hp
    refine ⟨_, rfl, a, rfl, ⟨_, sql ha2⟩, fun D2 hD2 => ?_⟩
    refine lc_gen (w := walk_list (xs := us)) ps (fun _ => true) id IsPt hlu.symm (by rw [hlu]; exact Nat.le_trans (Nat.le_of_lt h1) (by decide)) pt_kt hD2 (fun H s => sql (s _ _ ha2)) (fun i e y H H' Ny Ns ee s Y hy _ => ?_) (fun cs H3 s3 e3 p3 => ?_)
    · obtain ⟨rfl, ey⟩ := Y
      obtain ⟨y2, ey2, r⟩ := Paired.at2 p2 ee
      rw [ey] at ey2
      cases ey2
      obtain ⟨T5, rfl, hT5⟩ := r
      exact ⟨rfl, _, rfl, T5, _, rfl, .inr ⟨sqt (s _ _ hT5), hy rfl _ _ (Same.refl _) ⟨T5, rfl, s _ _ hT5⟩⟩⟩
    rw [filter_yes, List.map_id] at p3
    have s4 : Same H H3 := fun b u q => s3 _ _ (s2 _ _ q)
    have hlc : cs.length = ps.length := p3.length
    obtain ⟨ks, k1, k2, k3⟩ := pts_keys (K := K) p3
    have hkl : ks.length = ps.length := by rw [← hlc, k1, List.length_map]
    refine ⟨_, rfl, D2, ks, rfl, sql (by rw [e3, k1]), k2, by omega, fun S L hS hL1 hL2 => ?_⟩
    have hS2 := sameU (o := SetTO P w S L) (Same.refl H3) hS
    refine ⟨S, L, rfl, upd_same, ?_⟩
    refine ⟨_, rfl, D2, cs, rfl, .inl (sql (hS2 _ _ e3)), _, _, rfl, rfl, _, rfl, ite_t (fun e => ?_) (fun _ => ?_)⟩
    · have e := of_decide_eq_true e
      have := sub_len (l := ps.map fun q => [q.1, q.2]) (m := L.map (·.2)) (pair_inj hf.s.nd) fun x hx => by
        rw [← k3] at hx
        obtain ⟨q, hq, rfl⟩ := List.mem_map.mp hx
        exact hL2 q hq
      simp only [List.length_map] at this
      omega
    have sm2 : ∀ p ∈ ps, Sm (2 ^ 62) p := fun p hp => (sm p hp).mono (by decide)
    refine ⟨_, rfl, false, D2, cs, ps, rfl, sql (hS2 _ _ e3), Paired.kt pt_kt (same_kt hS2) p3, by omega, by omega, sm2, fun H4 s5 => ?_⟩
    refine ⟨_, _, rfl, rfl, _, rfl, ite_t (fun e => ?_) (fun _ => ?_)⟩
    · have e := of_decide_eq_true e
      have := hf.a
      omega
    have s6 : Same H3 H4 := fun b u q => s5 _ _ (hS2 _ _ q)
    refine ⟨_, rfl, false, D2, cs, ps, rfl, sql (s6 _ _ e3), Paired.kt pt_kt (same_kt s6) p3, by omega, by omega, fun H5 p5 ss s7 n5 e5 r5 => ?_⟩
    have hls : (sid ps).length = ps.length := by unfold sid; rw [List.length_map, cyc_n]
    refine ⟨_, rfl, true, p5, ss, sid ps, rfl, sqt e5, r5, by omega, by omega, fun H6 L6 ts s8 n6 e6 r6 => ?_⟩
    refine ⟨L6, rfl, ⟨_, sql e6⟩, fun D7 hD7 => ?_⟩
    have hl7 : (cyc (sid ps)).length = ts.length := r6.length.symm
    have hcg : ∀ e ∈ cyc (sid ps), goesOn e.1 e.2 := fun e he => by
      refine sid_goes hf.s e ?_
      cases hsd : sid ps with
      | nil => rw [hsd] at he; cases he
      | cons x t => rw [hsd] at he; exact he
    have hcs : ∀ e ∈ cyc (sid ps), Sm (2 ^ 64) e.1 := fun e he => by
      have h5 := (mem_cyc he).1
      unfold sid at h5
      obtain ⟨d, hd, e7⟩ := List.mem_map.mp h5
      rw [← e7]
      have m := mem_cyc hd
      exact sm_way (sm _ m.1) (sm _ m.2) (by decide)
    have s9 : Same H H6 := fun b u q => s8 _ _ (s7 _ _ (s6 _ _ (s4 _ _ q)))
    refine lc_gen (w := walk_list (xs := ts)) (cyc (sid ps)) (fun _ => true) (fun _ => true) IsB hl7 (by rw [← hl7, cyc_n]; exact Nat.le_trans (by omega : (sid ps).length ≤ 1000) (by decide)) isB_kt hD7 (fun H s => sql (s _ _ e6)) (fun i e y H H' Ny Ns ee s Y hy _ => ?_) (fun zs H8 s10 e8 p8 => ?_)
    · obtain ⟨rfl, ey⟩ := Y
      obtain ⟨y2, ey2, r⟩ := Paired.at2 r6 ee
      rw [ey] at ey2
      cases ey2
      obtain ⟨T, u, v, rfl, hT, hu, hv⟩ := r
      refine ⟨T, _, rfl, sqt (s _ _ hT), rfl, _, _, rfl, ?_⟩
      refine ⟨_, _, rfl, ?_⟩
      refine ⟨rfl, rfl, ?_⟩
      exact ⟨_, rfl, _, rfl, u, v, e.1, e.2, rfl, hu.same s, hv.same s, hcs _ (mem_at ee), hcg _ (mem_at ee), hy rfl _ _ (Same.refl _) rfl⟩
    rw [filter_yes] at p8
    refine ⟨D7, (cyc (sid ps)).map fun _ => true, rfl, sql (by rw [e8, bools_of p8]), _, rfl, ?_⟩
    rw [show (((cyc (sid ps)).map fun _ => true).all id) = true by simp]
    refine ite_t (fun _ => ?_) (fun e => nomatch e)
    have s11 : Same H3 H8 := fun b u q => s10 _ _ (s8 _ _ (s7 _ _ (s6 _ _ q)))
    refine ⟨_, rfl, false, D2, cs, ps, rfl, sql (s11 _ _ e3), Paired.kt pt_kt (same_kt s11) p3, hf, by omega, sm2, fun H9 s12 => k _ (fun b u q => s12 _ _ (s11 _ _ (s4 _ _ q)))⟩
end
end Bay
namespace Bay
open PySem PySem.Spec PyProof.Rows L2
open C8 (Cal pe_c Mak pe_mk)
/-! ## fences -/
/-- all but x stays -/
def Bx (x : Addr) (H H' : Hp) : Prop := ∀ b o, b ≠ x → H b = some o → H' b = some o
theorem Bx.refl {x : Addr} {H : Hp} : Bx x H H := fun _ _ _ h => h
theorem Bx.same {x : Addr} {H H1 H2 : Hp} (a : Bx x H H1) (b : Same H1 H2) : Bx x H H2 := fun c o n h => b c o (a c o n h)
theorem Bx.set {x : Addr} {H H1 : Hp} {u : HO} (a : Bx x H H1) : Bx x H (upd H1 x u) := fun c o n h => by
  rw [upd_ne n]
  exact a c o n h
theorem Bx.kt {x C dx : Addr} {fs : List (Str × V)} {H H1 : Hp} (a : Bx x H H1) (h : H x = some (.ins C dx fs)) : Kt H H1 := fun b xs e => a b _ (fun q => by rw [q, h] at e; cases e) e
/-- a tuple whose object is known to bear no dict -/
def FT (H : Hp) (c : Addr) (us : List V) : Prop := ∃ o : Obj, H c = some (.frz o (.tup us)) ∧ o.dict = none ∧ o.cls = .type "tuple"
theorem FT.sq {K : PySem.W.Frag} {H : Hp} {c : Addr} {us : List V} (h : FT H c us) : SqT K H c us := .inl (.inr ⟨h.choose, h.choose_spec.1⟩)
theorem FT.same {H H' : Hp} {c : Addr} {us : List V} (h : FT H c us) (s : Same H H') : FT H' c us := let ⟨o, a, b⟩ := h; ⟨o, s _ _ a, b⟩
theorem FT.ne {H : Hp} {c x : Addr} {us : List V} {u : HO} (h : FT H c us) (n : c ≠ x) : FT (upd H x u) c us := let ⟨o, a, b⟩ := h; ⟨o, by rw [upd_ne n]; exact a, b⟩
theorem cr_tupF {X : Cx} (K : PySem.W.Frag) (hK : X.K = K) : CallR X (.type "tuple") (fun xs H Q => ∃ p ys, xs = [.ref p] ∧ SqL K H p ys ∧ ∀ (l : Addr) (o : Obj), H l = none → o.dict = none → o.cls = .type "tuple" → Q (.ref l) (upd H l (.frz o (.tup ys)))) := by
  subst hK
  intro pins s σ H xs us Q I r h
  obtain ⟨p, ys, rfl, hq, q⟩ := h
  rw [Vals.ref1 r]
  obtain ⟨its, rv, pl, hz⟩ := I.list hq
  have hlen := rv.length
  refine call_tuple_list pl.isList (fun h' kp => ?_) (by simp only [List.size_toArray]; omega)
  have J : Inv X pins σ H { s with heap := h' } := I.kept (t' := s.toks) kp
  have free : H h'.objs.size = none := J.hok.fresh (Nat.le_refl _)
  have e : (h'.push { cls := .type "tuple", data := .seq its.toArray }).get? h'.objs.size = some { cls := .type "tuple", data := .seq its.toArray } := Heap.get?_push_size _ rfl
  exact ⟨.ref h'.objs.size, _, J.laid (t' := s.toks) (a := h'.objs.size) (o := .frz { cls := .type "tuple", data := .seq its.toArray } (.tup ys)) (fun b o z => Heap.get?_push_of_some _ z) (Nat.le_refl _) ⟨e, hz, its, rv, IsTup.new _ _⟩, rfl, q _ _ free rfl rfl⟩
abbrev fFields (c s : Addr) (n : Nat) (ar : Int) : List (Str × V) := [("corners", .ref c), ("many", .int n), ("sides", .ref s), ("area2", .int ar)]
/-- a fence with these corners -/
structure IsF (C : Addr) (H : Hp) (v : V) (ps : List Pt) : Prop where
  ex : ∃ (a dx c s : Addr) (us ss : List V), v = .ref a ∧ H a = some (.ins C dx (fFields c s ps.length (areaL ps))) ∧ FT H c us ∧ Pts H us ps ∧ H s = some (.tup ss) ∧ Pts H ss (sid ps)
theorem IsF.same {C : Addr} {H H' : Hp} {v : V} {ps : List Pt} (h : IsF C H v ps) (s : Same H H') : IsF C H' v ps := by
  obtain ⟨a, dx, c, t, us, ss, e, h1, h2, h3, h4, h5⟩ := h.ex
  exact ⟨a, dx, c, t, us, ss, e, s _ _ h1, h2.same s, Paired.kt pt_kt (same_kt s) h3, s _ _ h4, Paired.kt pt_kt (same_kt s) h5⟩
structure HasF (K : PySem.W.Frag) (mg : Str → Option Value) (C : Addr) : Prop where
  ins : C8.InsC K C
  n1 : NoAttr K C "corners"
  n2 : NoAttr K C "many"
  n3 : NoAttr K C "sides"
  n4 : NoAttr K C "area2"
  mgC : mg "Fence" = some (.ref C)
  init : ∃ (f : Addr) (fd : FuncData), Mk K C f ∧ FunD K "__init__" "Fence.__init__" (defArgs s_Fence_init) (defBody s_Fence_init) (defScope s_Fence_init) [.bl false] [] f fd ∧
    (∃ ds, Vals [.bl false] ds ∧ Binds K fd ["self", "corners", "is_sure"] ds) ∧ ∃ ds, Vals [] ds ∧ Binds K fd ["self", "corners", "is_sure"] ds
section
variable {P : Program} {w : World} {K : PySem.W.Frag} {mg : Str → Option Value} {base : Heap}
def Itq (b : Bool) (K : PySem.W.Frag) (a : Addr) : It := match b with | true => Itt K a | false => Itl K a
def iSq (b : Bool) (K : PySem.W.Frag) (tl : TE) : TI := fun σ H R => tl σ H fun x H1 => ∃ a, x = .ref a ∧ (∃ xs, Sq b K H1 a xs) ∧ R (Itq b K a) H1
theorem pi_sq {X : Cx} (b : Bool) {tg l : Expr} {tl : TE} (hl : PE X l tl) : PI X tg l (iSq b X.K tl) := by
  cases b
  · exact pi_list hl
  · exact pi_tup hl
theorem walk_q (b : Bool) {a : Addr} {xs : List V} : Walk (Itq b K a) xs.length (fun H => Sq b K H a xs) (YAt xs) := by
  cases b
  · exact walk_list
  · exact walk_tup
def spInit (C : Addr) : Sp := fun vs H Q _ => ∃ (x dx l : Addr) (b su : Bool) (us : List V) (ps : List Pt), vs = [.ref x, .ref l, .bl su] ∧ H x = some (.ins C dx []) ∧ Sq b K H l us ∧ Pts H us ps ∧ 0 < ps.length ∧ ps.length ≤ 1000 ∧ (∀ p ∈ ps, Sm (2 ^ 62) p) ∧
  (su = false → H l = some (.lst us) ∧ Fen ps ∧ ps.length < 64 ∧ ∀ p ∈ ps, Sm (2 ^ 60) p) ∧
  ∀ H' c s vs ss, Bx x H H' → H' x = some (.ins C dx (fFields c s ps.length (areaL ps))) → FT H' c vs → Pts H' vs ps → H' s = some (.tup ss) → Pts H' ss (sid ps) → Q .non H'
theorem scFenceInit : FnScope ["self", "corners", "is_sure", "each"] ["self", "corners", "is_sure"] (defScope s_Fence_init) := ⟨rfl, rfl, rfl, by decide +kernel, rfl, by decide +kernel, by decide +kernel⟩
theorem m_Fence {C : Addr} (B : Bn mg) (F : HasF K mg C) (C_are_corners : Cal P w K mg base 6 "are_corners" spCors []) (C_sides_in : Cal P w K mg base 2 "sides_in" (spSides (K := K)) []) (C_area_in : Cal P w K mg base 2 "area_in" (spArea (K := K)) []) :
    Mak P w K mg base 7 "Fence" C (spInit (K := K) C) [.bl false] ∧ Mak P w K mg base 7 "Fence" C (spInit (K := K) C) [] := by
  obtain ⟨f, fd, M, FD, ⟨ds, vd, bd⟩, ds0, vd0, bd0⟩ := F.init
  have ok : FnOk P w K mg base CX0 7 f fd ["self", "corners", "is_sure"] (spInit (K := K) C) := by
    refine FD.ok scFenceInit (fun vs H Q E h => ?_) (fun cdv A outer s H vs Q E hr h => ?_)
    · obtain ⟨_, _, _, _, _, _, _, rfl, _⟩ := h
      rfl
    · obtain ⟨x, dx, l, b, su, us, ps, rfl, hx, hq, hp, h0, h1, sm, hsu, k⟩ := h
      have hlu : us.length = ps.length := hp.length
      have cl := F.ins.cl
      suffices hh : ∃ t, PSs (cxOf CX0 P w K mg base ["self", "corners", "is_sure", "each"] "Fence.__init__" (defScope s_Fence_init) f cdv A outer s H E).nox (defBody s_Fence_init) t ∧ t { nx := fun _ H' => Q .non H', rt := Q } (start ["self", "corners", "is_sure", "each"] [.ref x, .ref l, .bl su]) H by
        obtain ⟨t, h1, h2⟩ := hh
        exact ⟨t, h1.nox, h2⟩
      refine ⟨_, (pss_cons (ps_if (PW.pt (pw_and (pt_not (pt_val (pv 2))) (pw_and1 (pt_not (pt_val (pe_c C_are_corners hr (by decide) rfl (pa_cons (pv 1) pa_nil))))))) (pss_one ps_never) pss_nil)
 (pss_cons (ps_fld (pv 0) (pe_callTy (cr_tupF K rfl) (by rfl) B.tuple (by decide +kernel) (pa_cons (pe_lc (own := [("each", 3)]) rfl scFenceInit.nd (pi_sq b (pv 1)) (blkOk_by (N := ["self", "corners", "is_sure", "each"]) (sc := defScope s_Fence_init) (by decide +kernel)) (fun _ _ _ _ _ => (pg_name (i := 3) scFenceInit.nd rfl (Or.inl rfl))) (fun _ _ _ _ _ => pts_nil) (fun _ _ _ _ _ => (pe_callTy (tup_ofK K rfl) (by rfl) B.tuple (by decide +kernel) (pa_cons (pv 3) pa_nil)))) pa_nil)) rfl)
 (pss_cons (ps_fld (pv 0) (pe_callB call_len_seq (by rfl) B.len (by decide +kernel) (pa_cons (pe_fld (pv 0) rfl) pa_nil)) rfl)
 (pss_cons (ps_fld (pv 0) (pe_c C_sides_in hr (by decide) rfl (pa_cons (pe_fld (pv 0) rfl) pa_nil)) rfl)
 (pss_one (ps_fld (pv 0) (pe_c C_area_in hr (by decide) rfl (pa_cons (pe_fld (pv 0) rfl) pa_nil)) rfl)))))), ?_⟩
      have rest : ∀ H1, Same H H1 → tSeq (sFld K (tVar 0) (tCB (fun xs H Q => ∃ p ys, xs = [V.ref p] ∧ SqL K H p ys ∧ ∀ (l : Addr) (o : Obj), H l = none → o.dict = none → o.cls = .type "tuple" → Q (.ref l) (upd H l (.frz o (.tup ys)))) (tCons (tLc (iSq b K (tVar 1)) (gName 3) tYes (tCB (fun xs H Q => ∃ p ys, xs = [V.ref p] ∧ ((SqL K H p ys ∧ ∀ l, H l = none → Q (.ref l) (upd H l (.tup ys))) ∨ (SqT K H p ys ∧ Q (.ref p) H))) (tCons (tVar 3) tNil)) [3]) tNil)) "corners")
          (tSeq (sFld K (tVar 0) (tCB (fun xs H Q => ∃ p ys, xs = [V.ref p] ∧ (SqL K H p ys ∨ SqT K H p ys) ∧ Q (.int ys.length) H) (tCons (tFld K (tVar 0) "corners") tNil)) "many")
          (tSeq (sFld K (tVar 0) (tCall (spSides (K := K)) [] C8.E0 (tCons (tFld K (tVar 0) "corners") tNil)) "sides") (tSeq (sFld K (tVar 0) (tCall (spArea (K := K)) [] C8.E0 (tCons (tFld K (tVar 0) "corners") tNil)) "area2") tNext)))
          { nx := fun _ H' => Q .non H', rt := Q } (start ["self", "corners", "is_sure", "each"] [.ref x, .ref l, .bl su]) H1 := by
        intro H1 s1
        have hq1 := Sq.same s1 hq
        have p1 : Pts H1 us ps := Paired.kt pt_kt (same_kt s1) hp
        refine ⟨_, rfl, l, rfl, ⟨_, hq1⟩, fun D hD => ?_⟩
        refine lc_gen (w := walk_q b (xs := us)) ps (fun _ => true) id IsPt hlu.symm (by rw [hlu]; exact Nat.le_trans h1 (by decide)) pt_kt hD (fun H s => Sq.same s hq1) (fun i e y H H' Ny Ns ee s Y hy _ => ?_) (fun cs H2 s2 e2 p2 => ?_)
        · obtain ⟨rfl, ey⟩ := Y
          obtain ⟨y2, ey2, r⟩ := Paired.at2 p1 ee
          rw [ey] at ey2
          cases ey2
          obtain ⟨T5, rfl, hT5⟩ := r
          exact ⟨rfl, _, rfl, T5, _, rfl, .inr ⟨sqt (s _ _ hT5), hy rfl _ _ (Same.refl _) ⟨T5, rfl, s _ _ hT5⟩⟩⟩
        rw [filter_yes, List.map_id] at p2
        have s3 : Same H H2 := fun b u q => s2 _ _ (s1 _ _ q)
        refine ⟨D, cs, rfl, sql e2, fun c ob hc od oc => ?_⟩
        have s4 := sameU (o := .frz ob (.tup cs)) s3 hc
        refine ⟨_, rfl, x, C, dx, [], rfl, s4 _ _ hx, cl, F.n1, by decide, ?_⟩
        have hcx : c ≠ x := fun q => by rw [q] at hc; rw [s3 _ _ hx] at hc; cases hc
        -- corners stand
        have b5 : Bx x H (upd (upd H2 c (.frz ob (.tup cs))) x (.ins C dx [("corners", .ref c)])) := Bx.set (Bx.same Bx.refl s4)
        have c5 : FT (upd (upd H2 c (.frz ob (.tup cs))) x (.ins C dx [("corners", .ref c)])) c cs := ⟨ob, by rw [upd_ne hcx, upd_same], od, oc⟩
        have x5 : (upd (upd H2 c (.frz ob (.tup cs))) x (.ins C dx [("corners", .ref c)])) x = some (.ins C dx [("corners", .ref c)]) := upd_same
        have p5 : Pts (upd (upd H2 c (.frz ob (.tup cs))) x (.ins C dx [("corners", .ref c)])) cs ps := Paired.kt pt_kt (fun b xs q => by
          have := s3 _ _ hx
          rw [upd_ne (fun z => by rw [z, this] at q; cases q), upd_ne (fun z => by rw [z, hc] at q; cases q)]
          exact q) p2
        show tSeq _ _ _ _ (upd (upd H2 c (.frz ob (.tup cs))) x (.ins C dx [("corners", .ref c)]))
        generalize upd (upd H2 c (.frz ob (.tup cs))) x (.ins C dx [("corners", .ref c)]) = H5 at b5 c5 x5 p5
        refine ⟨_, rfl, x, C, dx, _, _, rfl, x5, cl, F.n1, rfl, c, cs, rfl, .inr c5.sq, _, rfl, x, C, dx, _, rfl, x5, cl, F.n2, by show 1 < 1000; decide, ?_⟩
        have hlc : cs.length = ps.length := p5.length
        have st : ∀ {fs fs' : List (Str × V)} {H' : Hp}, H' x = some (.ins C dx fs) → Kt H' (upd H' x (.ins C dx fs')) := fun {fs fs' H'} e b xs q => by
          rw [upd_ne (fun z => by rw [z, e] at q; cases q)]
          exact q
        show tSeq _ _ _ _ (upd H5 x (.ins C dx [("corners", .ref c), ("many", .int (cs.length : Nat))]))
        have b6 : Bx x H (upd H5 x (.ins C dx [("corners", .ref c), ("many", .int (cs.length : Nat))])) := b5.set
        have x6 : (upd H5 x (.ins C dx [("corners", .ref c), ("many", .int (cs.length : Nat))])) x = some (.ins C dx [("corners", .ref c), ("many", .int (cs.length : Nat))]) := upd_same
        have k6 := st (fs' := [("corners", .ref c), ("many", .int (cs.length : Nat))]) x5
        have c6 := c5.ne (u := .ins C dx [("corners", .ref c), ("many", .int (cs.length : Nat))]) hcx
        have p6 := Paired.kt pt_kt k6 p5
        rw [hlc] at b6 x6 c6 p6 ⊢
        generalize upd H5 x (.ins C dx [("corners", .ref c), ("many", .int (ps.length : Nat))]) = H6 at b6 x6 c6 p6 ⊢
        refine ⟨_, rfl, x, C, dx, _, _, rfl, x6, cl, F.n1, rfl, true, c, cs, ps, rfl, c6.sq, p6, h0, h1, fun H7 s ss s7 n7 e7 r7 => ?_⟩
        have x7 := s7 _ _ x6
        have c7 := c6.same s7
        have p7 := Paired.kt pt_kt (same_kt s7) p6
        refine ⟨_, rfl, x, C, dx, _, rfl, x7, cl, F.n3, by show 2 < 1000; decide, ?_⟩
        have b7 := b6.same s7
        show tSeq _ _ _ _ (upd H7 x (.ins C dx [("corners", .ref c), ("many", .int (ps.length : Nat)), ("sides", .ref s)]))
        have k8 := st (fs' := [("corners", .ref c), ("many", .int (ps.length : Nat)), ("sides", .ref s)]) x7
        have b8 : Bx x H (upd H7 x (.ins C dx [("corners", .ref c), ("many", .int (ps.length : Nat)), ("sides", .ref s)])) := b7.set
        have x8 : (upd H7 x (.ins C dx [("corners", .ref c), ("many", .int (ps.length : Nat)), ("sides", .ref s)])) x = some (.ins C dx [("corners", .ref c), ("many", .int (ps.length : Nat)), ("sides", .ref s)]) := upd_same
        have c8 := c7.ne (u := .ins C dx [("corners", .ref c), ("many", .int (ps.length : Nat)), ("sides", .ref s)]) hcx
        have p8 := Paired.kt pt_kt k8 p7
        have e8 := k8 _ _ e7
        have r8 := Paired.kt pt_kt k8 r7
        generalize upd H7 x (.ins C dx [("corners", .ref c), ("many", .int (ps.length : Nat)), ("sides", .ref s)]) = H8 at b8 x8 c8 p8 e8 r8 ⊢
        refine ⟨_, rfl, x, C, dx, _, _, rfl, x8, cl, F.n1, rfl, true, c, cs, ps, rfl, c8.sq, p8, h0, h1, sm, fun H9 s9 => ?_⟩
        have x9 := s9 _ _ x8
        refine ⟨_, rfl, x, C, dx, _, rfl, x9, cl, F.n4, by show 3 < 1000; decide, ?_⟩
        have k10 := st (fs' := fFields c s ps.length (areaL ps)) x9
        have k9 : Kt H8 (upd H9 x (.ins C dx (fFields c s ps.length (areaL ps)))) := fun b xs q => k10 _ _ (s9 _ _ q)
        exact k (upd H9 x (.ins C dx (fFields c s ps.length (areaL ps)))) c s cs ss (Bx.set (b8.same s9)) upd_same ((c8.same s9).ne hcx) (Paired.kt pt_kt k9 p8) (k9 _ _ e8) (Paired.kt pt_kt k9 r8)
      refine ⟨_, rfl, su, rfl, ite_t (fun e => ?_) (fun e => ?_)⟩
      · have e : su = false := by simpa using e
        obtain ⟨hl, hf, h64, sm6⟩ := hsu e
        exact ⟨_, rfl, l, us, ps, rfl, hl, hp, hf, h64, sm6, fun H1 s1 => ⟨_, rfl, ite_t (fun e => nomatch e) fun _ => rest H1 s1⟩⟩
      · exact ite_t (fun e => nomatch e) fun _ => rest H (Same.refl H)
  exact ⟨⟨f, fd, _, ds, M, ok, F.mgC, bd, vd⟩, ⟨f, fd, _, ds0, M, ok, F.mgC, bd0, vd0⟩⟩
end
end Bay
namespace Bay
open PySem PySem.Spec PyProof.Rows L2
open C8 (Cal pe_c Mak pe_mk)
section
variable {P : Program} {w : World} {K : PySem.W.Frag} {mg : Str → Option Value} {base : Heap}
/-- what a new fence keeps -/
theorem fence_made {C : Addr} {H1 : Hp} {l : Addr} {b su : Bool} {us : List V} {ps : List Pt} {Q : VK} {E : XK} (hq : Sq b K H1 l us) (hp : Pts H1 us ps) (h0 : 0 < ps.length) (h1 : ps.length ≤ 1000) (sm : ∀ p ∈ ps, Sm (2 ^ 62) p)
    (hsu : su = false → H1 l = some (.lst us) ∧ Fen ps ∧ ps.length < 64 ∧ ∀ p ∈ ps, Sm (2 ^ 60) p) (k : ∀ H2 v, Same H1 H2 → IsF C H2 v ps → Q v H2) :
    ∀ x dx, H1 x = none → H1 dx = none → dx ≠ x → spInit (K := K) C [.ref x, .ref l, .bl su] (upd (upd H1 dx (.own x)) x (.ins C dx [])) (fun v H2 => v = .non ∧ Q (.ref x) H2) E := by
  intro x dx hx hdx ne
  have s1 : Same H1 (upd H1 dx (.own x)) := sameU (Same.refl H1) hdx
  have s2 : Same H1 (upd (upd H1 dx (.own x)) x (.ins C dx [])) := sameU s1 (by rw [upd_ne (Ne.symm ne)]; exact hx)
  refine ⟨x, dx, l, b, su, us, ps, rfl, upd_same, Sq.same s2 hq, Paired.kt pt_kt (same_kt s2) hp, h0, h1, sm, fun e => ?_, fun H' c s vs ss bx a1 a2 a3 a4 a5 => ⟨rfl, k H' _ ?_ ⟨x, dx, c, s, vs, ss, rfl, a1, a2, a3, a4, a5⟩⟩⟩
  · obtain ⟨e1, e2⟩ := hsu e
    exact ⟨s2 _ _ e1, e2⟩
  · exact fun b u q => bx b u (fun z => by rw [z, hx] at q; cases q) (s2 _ _ q)
def spNeedF (C : Addr) : Sp := fun vs H Q _ => ∃ (v z : V) (ps : List Pt), vs = [v, z] ∧ IsF C H v ps ∧ Q .non H
theorem scNeedFence : FnScope ["value", "part"] ["value", "part"] (defScope s_need_fence) := ⟨rfl, rfl, rfl, by decide +kernel, rfl, by decide +kernel, by decide +kernel⟩
/-- a def that is called with its default -/
structure HasD (K : PySem.W.Frag) (mg : Str → Option Value) (x : Str) (st : Stmt) (ps : List Str) (dvs : List V) : Prop where
  ex : ∃ (f : Addr) (fd : FuncData), mg x = some (.ref f) ∧ FunD K x x (defArgs st) (defBody st) (defScope st) dvs [] f fd ∧ ∃ ds, Vals dvs ds ∧ Binds K fd ps ds
theorem c_need_fence {C : Addr} (B : Bn mg) (FC : HasF K mg C) (F : HasD K mg "need_fence" s_need_fence ["value", "part"] [.str "fence"]) : Cal P w K mg base 1 "need_fence" (spNeedF C) [.str "fence"] := by
  obtain ⟨f, fd, hg, FF, ds, vd, b⟩ := F.ex
  refine ⟨f, fd, _, ds, FF.ok scNeedFence (fun vs H Q E h => ?_) (fun cdv A outer s H vs Q E hr h => ?_), hg, FF.kp, b, vd⟩
  · obtain ⟨_, _, _, rfl, _⟩ := h
    rfl
  · obtain ⟨v, z, ps, rfl, hv, k⟩ := h
    suffices hh : ∃ t, PSs (cxOf CX0 P w K mg base ["value", "part"] "need_fence" (defScope s_need_fence) f cdv A outer s H E).nox (defBody s_need_fence) t ∧ t { nx := fun _ H' => Q .non H', rt := Q } (start ["value", "part"] [v, z]) H by
      obtain ⟨t, h1, h2⟩ := hh
      exact ⟨t, h1.nox, h2⟩
    refine ⟨_, (pss_one (ps_if (pt_not (pt_val (pe_callB (C8.call_isC FC.ins) (by rfl) B.isinstance (by decide +kernel) (pa_cons (pv 0) (pa_cons (pe_glob (by rfl) FC.mgC (v := .ref C) rfl) pa_nil))))) (pss_one ps_never) pss_nil)), ?_⟩
    obtain ⟨a, dx, c, t, us, ss, rfl, h1, _⟩ := hv.ex
    exact ⟨_, rfl, a, dx, _, rfl, h1, _, rfl, ite_t (fun e => nomatch e) fun _ => k⟩
/-- the side ahead of the i-th -/
def prv (n i : Nat) : Nat := if i = 0 then n - 1 else i - 1
def strT (ps : List Pt) (i : Nat) : Bool := decide (cr (sd ps (prv ps.length i)) (sd ps i) = 0)
def spStr (C : Addr) : Sp := fun vs H Q _ => ∃ (v : V) (i : Nat) (ps : List Pt), vs = [v, .int i] ∧ IsF C H v ps ∧ i < ps.length ∧ (∀ p ∈ ps, Sm (2 ^ 62) p) ∧ Q (.bl (strT ps i)) H
theorem scIsStraight : FnScope ["fence", "at"] ["fence", "at"] (defScope s_is_straight) := ⟨rfl, rfl, rfl, by decide +kernel, rfl, by decide +kernel, by decide +kernel⟩
theorem sid_n (ps : List Pt) : (sid ps).length = ps.length := by unfold sid; rw [List.length_map, cyc_n]
theorem sid_get {ps : List Pt} {i : Nat} (h : i < ps.length) : (sid ps)[i]? = some (sd ps i) := by
  have h : i < (sid ps).length := by rw [sid_n]; exact h
  unfold sd
  rw [List.getD_eq_getElem?_getD, List.getElem?_eq_getElem h]
  rfl
theorem sid_sm {ps : List Pt} (h : ∀ p ∈ ps, Sm (2 ^ 62) p) {i : Nat} (hi : i < ps.length) : Sm (2 ^ 63) (sd ps i) := by
  have e := mem_at (sid_get hi)
  unfold sid at e
  obtain ⟨d, hd, e7⟩ := List.mem_map.mp e
  rw [← e7]
  have m := mem_cyc hd
  exact sm_way (h _ m.1) (h _ m.2) (by decide)
theorem atI_prev {α : Type} {xs : List α} {i : Nat} (hi : i < xs.length) : atI xs ((i : Int) - 1) = xs[prv xs.length i]? := by
  unfold prv
  by_cases h : i = 0
  · subst h
    rw [if_pos rfl]
    unfold atI ixN
    rw [show (((0 : Nat) : Int) - 1) = -1 from rfl, if_neg (by decide), if_pos (by omega)]
    show xs[_]? = _
    congr 1
    omega
  · rw [if_neg h, show ((i : Int) - 1) = ((i - 1 : Nat) : Int) by omega]
    exact (atI_nat (List.getElem?_eq_getElem (by omega))).trans (List.getElem?_eq_getElem (by omega)).symm
theorem c_is_straight {C : Addr} (FC : HasF K mg C) (C_cross : Cal P w K mg base 1 "cross" spCross []) (F : Has K mg "is_straight" s_is_straight ["fence", "at"]) : Cal P w K mg base 2 "is_straight" (spStr C) [] := by
  refine F.cal scIsStraight (fun vs H Q E h => ?_) (fun f cdv A outer s H vs Q E hr h => ?_)
  · obtain ⟨_, _, _, rfl, _⟩ := h
    rfl
  · obtain ⟨v, i, ps, rfl, hv, hi, sm, k⟩ := h
    refine ⟨_, (pss_one (ps_ret (pe_cmpR op_eq (pe_c C_cross hr (by decide) rfl (pa_cons (ixT (pe_fld (pv 0) rfl) (pe_op op_sub (pv 1) pe_int)) (pa_cons (ixT (pe_fld (pv 0) rfl) (pv 1)) pa_nil))) pe_int (nomark _)))), ?_⟩
    obtain ⟨a, dx, c, t, us, ss, rfl, h1, h2, h3, h4, h5⟩ := hv.ex
    have hls : ss.length = ps.length := by rw [h5.length, sid_n]
    have hp : prv ps.length i < ps.length := by unfold prv; split <;> omega
    obtain ⟨x1, e1, r1⟩ := Paired.at2 h5 (sid_get hp)
    obtain ⟨x2, e2, r2⟩ := Paired.at2 h5 (sid_get hi)
    refine ⟨_, rfl, a, C, dx, _, _, rfl, h1, FC.ins.cl, FC.n3, rfl, _, rfl, _, _, rfl, rfl, t, ss, _, x1, rfl, rfl, sqt h4, by rw [atI_prev (by omega), hls]; exact e1, ?_⟩
    refine ⟨_, rfl, a, C, dx, _, _, rfl, h1, FC.ins.cl, FC.n3, rfl, _, rfl, t, ss, _, x2, rfl, rfl, sqt h4, atI_nat e2, ?_⟩
    refine ⟨x1, x2, _, _, rfl, r1, r2, (sid_sm sm hp).mono (by decide), rfl, ?_⟩
    have e : strT ps i = decide (V.int (cr (sd ps (prv ps.length i)) (sd ps i)) = V.int 0) := by unfold strT; simp
    rw [e] at k
    exact k
end
end Bay
namespace Bay
open PySem PySem.Spec PyProof.Rows L2
open C8 (Cal pe_c Mak pe_mk)
section
variable {P : Program} {w : World} {K : PySem.W.Frag} {mg : Str → Option Value} {base : Heap}
def spCommon : Sp := fun vs H Q _ => ∃ a b : Int, vs = [.int a, .int b] ∧ Q (.int (Int.gcd a b : Nat)) H
theorem scCommon : FnScope ["one", "other"] ["one", "other"] (defScope s_common) := ⟨rfl, rfl, rfl, by decide +kernel, rfl, by decide +kernel, by decide +kernel⟩
theorem abs_nat (a : Int) : (if a < 0 then -a else a) = ((a.natAbs : Nat) : Int) := by split <;> omega
theorem gcd_turn (m n : Nat) : Nat.gcd n (m % n) = Nat.gcd m n := by
  rw [Nat.gcd_comm m n, Nat.gcd_rec n m, Nat.gcd_comm]
theorem c_common (B : Bn mg) (F : Has K mg "common" s_common ["one", "other"]) : Cal P w K mg base 1 "common" spCommon [] := by
  refine F.cal scCommon (fun vs H Q E h => ?_) (fun f cdv A outer s H vs Q E hr h => ?_)
  · obtain ⟨_, _, rfl, _⟩ := h
    rfl
  · obtain ⟨a, b, rfl, k⟩ := h
    refine ⟨_, (pss_cons (ps_par (i := 0) (j := 1) rfl scCommon.nd rfl rfl (by decide) rfl rfl (pa_cons (pe_callB call_abs (by rfl) B.abs (by decide +kernel) (pa_cons (pv 0) pa_nil)) (pa_cons (pe_callB call_abs (by rfl) B.abs (by decide +kernel) (pa_cons (pv 1) pa_nil)) pa_nil)) (by rfl))
 (pss_cons (ps_while PassesOwn.never (pt_cmpR op_ne (pv 1) pe_int (nomark _)) (pss_one (ps_par (i := 0) (j := 1) rfl scCommon.nd rfl rfl (by decide) rfl rfl (pa_cons (pv 1) (pa_cons (pe_op op_mod (pv 0) (pv 1)) pa_nil)) (by rfl))))
 (pss_one (ps_ret (pv 0))))), ?_⟩
    refine ⟨_, rfl, _, rfl, _, rfl, _, rfl, _, _, rfl, ?_⟩
    refine ⟨fun k σ H' => H' = H ∧ ∃ m n : Nat, k = n ∧ σ = [some (.int m), some (.int n)] ∧ Nat.gcd m n = Int.gcd a b, ⟨b.natAbs, rfl, a.natAbs, b.natAbs, rfl, ?_, rfl⟩, fun q σ H' hW => ?_⟩
    · rw [abs_nat, abs_nat]
      rfl
    · obtain ⟨rfl, m, n, rfl, rfl, hg⟩ := hW
      refine ⟨_, rfl, rfl, _, rfl, ite_t (fun e => ?_) (fun e => ?_)⟩
      · have hn : q ≠ 0 := fun z => by subst z; simp at e
        refine ⟨fun σ' H'' => H'' = H' ∧ σ' = [some (.int q), some (.int (m % q : Nat))], fun σ' H'' h => ⟨m % q, Nat.mod_lt _ (Nat.pos_of_ne_zero hn), h.1, q, m % q, rfl, h.2, by rw [gcd_turn, hg]⟩, ?_⟩
        refine ⟨_, rfl, _, rfl, _, rfl, _, _, rfl, rfl, by omega, _, _, rfl, rfl, ?_⟩
        rfl
      · have hn : q = 0 := by simpa using e
        subst hn
        rw [Nat.gcd_zero_right] at hg
        subst hg
        exact ⟨_, rfl, k⟩
def spDir : Sp := fun vs H Q _ => ∃ (v : V) (s : Pt), vs = [v] ∧ IsPt H v s ∧ s ≠ (0, 0) ∧ Sm (2 ^ 29) s ∧ ∀ p, H p = none → Q (.ref p) (upd H p (.tup [.int (dirOf s).1, .int (dirOf s).2]))
theorem scDirectionIn : FnScope ["side", "part"] ["side"] (defScope s_direction_in) := ⟨rfl, rfl, rfl, by decide +kernel, rfl, by decide +kernel, by decide +kernel⟩
theorem gcd_small {s : Pt} (h : s ≠ (0, 0)) (sm : Sm (2 ^ 29) s) : (Int.gcd s.1 s.2 : Int) < 1073741824 := by
  have h1 : Int.gcd s.1 s.2 ∣ s.1.natAbs := Nat.gcd_dvd_left _ _
  have h2 : Int.gcd s.1 s.2 ∣ s.2.natAbs := Nat.gcd_dvd_right _ _
  unfold Sm at sm
  by_cases e : s.1 = 0
  · have e2 : s.2 ≠ 0 := fun q => h (Prod.ext e q)
    have := Nat.le_of_dvd (by omega) h2
    omega
  · have := Nat.le_of_dvd (by omega) h1
    omega
theorem c_direction_in (C_common : Cal P w K mg base 1 "common" spCommon []) (F : Has K mg "direction_in" s_direction_in ["side"]) : Cal P w K mg base 2 "direction_in" spDir [] := by
  refine F.cal scDirectionIn (fun vs H Q E h => ?_) (fun f cdv A outer s H vs Q E hr h => ?_)
  · obtain ⟨_, _, rfl, _⟩ := h
    rfl
  · obtain ⟨v, d, rfl, hv, hd, sm, k⟩ := h
    refine ⟨_, (pss_cons (ps_set (i := 1) scDirectionIn.nd rfl (Or.inl rfl) (pe_c C_common hr (by decide) rfl (pa_cons (ixT (pv 0) pe_int) (pa_cons (ixT (pv 0) pe_int) pa_nil))))
 (pss_one (ps_ret (pe_tup (pa_cons (pe_op op_fdiv (ixT (pv 0) pe_int) (pv 1)) (pa_cons (pe_op op_fdiv (ixT (pv 0) pe_int) (pv 1)) pa_nil)))))), ?_⟩
    have g1 := gcd_pos hd
    have g2 := gcd_small hd sm
    refine ⟨_, rfl, hv.i0 ⟨_, rfl, hv.i1 ⟨_, _, rfl, ?_⟩⟩⟩
    refine ⟨_, rfl, hv.i0 ⟨_, rfl, _, _, rfl, rfl, ⟨g1, g2⟩, ?_⟩⟩
    refine ⟨_, rfl, hv.i1 ⟨_, rfl, _, _, rfl, rfl, ⟨g1, g2⟩, ?_⟩⟩
    exact ⟨by show 2 ≤ sizeLine; decide, fun p hp => k p hp⟩
def spUpper : Sp := fun vs H Q _ => ∃ (v : V) (d : Pt), vs = [v] ∧ IsPt H v d ∧ Q (.bl (up d)) H
theorem scIsUpper : FnScope ["direction"] ["direction"] (defScope s_is_upper) := ⟨rfl, rfl, rfl, by decide +kernel, rfl, by decide +kernel, by decide +kernel⟩
theorem c_is_upper (F : Has K mg "is_upper" s_is_upper ["direction"]) : Cal P w K mg base 1 "is_upper" spUpper [] := by
  refine F.cal scIsUpper (fun vs H Q E h => ?_) (fun f cdv A outer s H vs Q E hr h => ?_)
  · obtain ⟨_, _, rfl, _⟩ := h
    rfl
  · obtain ⟨v, d, rfl, hv, k⟩ := h
    refine ⟨_, (pss_one (ps_ret (pe_or (pe_cmpR op_gt (ixT (pv 0) pe_int) pe_int (nomark _)) (pe_one (pe_and (pe_cmpR op_eq (ixT (pv 0) pe_int) pe_int (nomark _)) (pe_one (pe_cmpR op_gt (ixT (pv 0) pe_int) pe_int (nomark _)))))))), ?_⟩
    refine ⟨_, rfl, hv.i1 ⟨_, _, rfl, rfl, _, rfl, ite_t (fun e => ?_) (fun e => ?_)⟩⟩
    · have e2 : up d = true := by unfold up; rw [show decide (d.2 > 0) = true from e]; rfl
      rw [e2] at k
      exact k
    · refine ⟨_, rfl, hv.i1 ⟨rfl, _, rfl, ite_t (fun e1 => ?_) (fun e1 => ?_)⟩⟩
      · refine ⟨_, rfl, hv.i0 ⟨_, _, rfl, rfl, ?_⟩⟩
        have e3 : d.2 = 0 := by simpa using e1
        have e2 : up d = decide (0 < d.1) := by
          unfold up
          rw [show decide (d.2 > 0) = false from e, decide_eq_true e3]
          rfl
        rw [e2] at k
        exact k
      · have e3 : ¬ d.2 = 0 := by simpa using e1
        have e2 : up d = false := by
          unfold up
          rw [show decide (d.2 > 0) = false from e, decide_eq_false e3]
          rfl
        rw [e2] at k
        exact k
def spAhead : Sp := fun vs H Q _ => ∃ (u v : V) (a b : Pt), vs = [u, v] ∧ IsPt H u a ∧ IsPt H v b ∧ Sm (2 ^ 64) a ∧ Q (.bl (ahead a b)) H
theorem scIsAhead : FnScope ["one", "other"] ["one", "other"] (defScope s_is_ahead) := ⟨rfl, rfl, rfl, by decide +kernel, rfl, by decide +kernel, by decide +kernel⟩
theorem c_is_ahead (C_is_upper : Cal P w K mg base 1 "is_upper" spUpper []) (C_cross : Cal P w K mg base 1 "cross" spCross []) (F : Has K mg "is_ahead" s_is_ahead ["one", "other"]) : Cal P w K mg base 2 "is_ahead" spAhead [] := by
  refine F.cal scIsAhead (fun vs H Q E h => ?_) (fun f cdv A outer s H vs Q E hr h => ?_)
  · obtain ⟨_, _, _, _, rfl, _⟩ := h
    rfl
  · obtain ⟨u, v, a, b, rfl, hu, hv, sm, k⟩ := h
    refine ⟨_, (pss_cons (ps_if (pt_cmpR op_ne (pe_c C_is_upper hr (by decide) rfl (pa_cons (pv 0) pa_nil)) (pe_c C_is_upper hr (by decide) rfl (pa_cons (pv 1) pa_nil)) (nomark _)) (pss_one (ps_ret (pe_c C_is_upper hr (by decide) rfl (pa_cons (pv 0) pa_nil)))) pss_nil)
 (pss_one (ps_ret (pe_cmpR op_gt (pe_c C_cross hr (by decide) rfl (pa_cons (pv 0) (pa_cons (pv 1) pa_nil))) pe_int (nomark _))))), ?_⟩
    refine ⟨_, rfl, u, a, rfl, hu, _, rfl, v, b, rfl, hv, rfl, _, rfl, ite_t (fun e => ?_) (fun e => ?_)⟩
    · have h1 : (up a != up b) = true := by simpa using e
      have e2 : ahead a b = up a := by unfold ahead; rw [if_pos h1]
      rw [e2] at k
      exact ⟨_, rfl, u, a, rfl, hu, k⟩
    · have h1 : ¬ (up a != up b) = true := by simpa using e
      have e2 : ahead a b = decide (0 < cr a b) := by unfold ahead; rw [if_neg h1]
      rw [e2] at k
      exact ⟨_, rfl, _, rfl, u, v, a, b, rfl, hu, hv, sm, _, _, rfl, rfl, k⟩
def spPast : Sp := fun vs H Q _ => ∃ (u v : V) (a b : Pt), vs = [u, v] ∧ IsPt H u a ∧ IsPt H v b ∧ Sm (2 ^ 64) a ∧ Sm (2 ^ 64) b ∧ Q (.int (pe a b)) H
theorem scPastEast : FnScope ["one", "other", "turn"] ["one", "other"] (defScope s_past_east) := ⟨rfl, rfl, rfl, by decide +kernel, rfl, by decide +kernel, by decide +kernel⟩
theorem c_past_east (B : Bn mg) (C_is_ahead : Cal P w K mg base 2 "is_ahead" spAhead []) (C_cross : Cal P w K mg base 1 "cross" spCross []) (F : Has K mg "past_east" s_past_east ["one", "other"]) : Cal P w K mg base 3 "past_east" spPast [] := by
  refine F.cal scPastEast (fun vs H Q E h => ?_) (fun f cdv A outer s H vs Q E hr h => ?_)
  · obtain ⟨_, _, _, _, rfl, _⟩ := h
    rfl
  · obtain ⟨u, v, a, b, rfl, hu, hv, sa, sb, k⟩ := h
    refine ⟨_, (pss_cons (ps_set (i := 2) scPastEast.nd rfl (Or.inl rfl) (pe_c C_cross hr (by decide) rfl (pa_cons (pv 0) (pa_cons (pv 1) pa_nil))))
 (pss_cons (ps_if (pt_cmpR op_gt (pv 2) pe_int (nomark _)) (pss_one (ps_ret (pe_callTy call_int1 (by rfl) B.int (by decide +kernel) (pa_cons (pe_c C_is_ahead hr (by decide) rfl (pa_cons (pv 1) (pa_cons (pv 0) pa_nil))) pa_nil)))) pss_nil)
 (pss_one (ps_ret (pe_ifExp (pt_cmpR op_lt (pv 2) pe_int (nomark _)) (pe_un un_neg (pe_callTy call_int1 (by rfl) B.int (by decide +kernel) (pa_cons (pe_c C_is_ahead hr (by decide) rfl (pa_cons (pv 0) (pa_cons (pv 1) pa_nil))) pa_nil))) pe_int))))), ?_⟩
    refine ⟨_, rfl, _, rfl, u, v, a, b, rfl, hu, hv, sa, ?_⟩
    refine ⟨_, rfl, _, _, rfl, rfl, _, rfl, ite_t (fun e => ?_) (fun e => ?_)⟩
    · have h1 : cr a b > 0 := of_decide_eq_true e
      have e2 : pe a b = if ahead b a = true then 1 else 0 := by unfold pe; rw [if_pos h1]
      rw [e2] at k
      exact ⟨_, rfl, _, rfl, v, u, b, a, rfl, hv, hu, sb, .inr ⟨_, rfl, k⟩⟩
    · have h1 : ¬ cr a b > 0 := of_decide_eq_false e
      refine ⟨_, rfl, _, _, rfl, rfl, _, rfl, ite_t (fun e1 => ?_) (fun e1 => ?_)⟩
      · have h2 : cr a b < 0 := of_decide_eq_true e1
        have e2 : pe a b = -(if ahead a b = true then 1 else 0) := by unfold pe; rw [if_neg h1, if_pos h2]
        rw [e2] at k
        exact ⟨_, rfl, _, rfl, u, v, a, b, rfl, hu, hv, sa, .inr ⟨_, rfl, _, rfl, k⟩⟩
      · have h2 : ¬ cr a b < 0 := of_decide_eq_false e1
        have e2 : pe a b = 0 := by unfold pe; rw [if_neg h1, if_neg h2]
        rw [e2] at k
        exact k
end
end Bay
namespace Bay
open PySem PySem.Spec PyProof.Rows L2
open C8 (Cal pe_c Mak pe_mk)
section
variable {P : Program} {w : World} {K : PySem.W.Frag} {mg : Str → Option Value} {base : Heap}
def strL (ps : List Pt) : List Pt := ((List.range ps.length).filter fun i => !strT ps i).map fun i => ps.getD i (0, 0)
def spStrIn (C : Addr) : Sp := fun vs H Q _ => ∃ (v : V) (ps : List Pt), vs = [v] ∧ IsF C H v ps ∧ ps.length ≤ 1000 ∧ (∀ p ∈ ps, Sm (2 ^ 62) p) ∧ 0 < (strL ps).length ∧ ∀ H' v', Same H H' → IsF C H' v' (strL ps) → Q v' H'
theorem scStraightIn : FnScope ["fence", "at", "corner"] ["fence"] (defScope s_straight_in) := ⟨rfl, rfl, rfl, by decide +kernel, rfl, by decide +kernel, by decide +kernel⟩
theorem strL_sub {ps : List Pt} {p : Pt} (h : p ∈ strL ps) : p ∈ ps := by
  unfold strL at h
  obtain ⟨i, hi, e⟩ := List.mem_map.mp h
  have hi := List.mem_range.mp (List.mem_filter.mp hi).1
  rw [← e, List.getD_eq_getElem?_getD, List.getElem?_eq_getElem hi]
  exact List.getElem_mem hi
theorem strL_len (ps : List Pt) : (strL ps).length ≤ ps.length := by
  unfold strL
  rw [List.length_map]
  exact Nat.le_trans (List.length_filter_le _ _) (by simp)
theorem c_straight_in {C : Addr} (B : Bn mg) (FC : HasF K mg C) (C_is_straight : Cal P w K mg base 2 "is_straight" (spStr C) []) (M_Fence : Mak P w K mg base 7 "Fence" C (spInit (K := K) C) []) (F : Has K mg "straight_in" s_straight_in ["fence"]) : Cal P w K mg base 9 "straight_in" (spStrIn C) [] := by
  refine F.cal scStraightIn (fun vs H Q E h => ?_) (fun f cdv A outer s H vs Q E hr h => ?_)
  · obtain ⟨_, _, rfl, _⟩ := h
    rfl
  · obtain ⟨v, ps, rfl, hv, h1, sm, h0, k⟩ := h
    refine ⟨_, (pss_one (ps_ret (pe_mk M_Fence hr (by decide) rfl (pa_cons (pe_lc (own := [("at", 1), ("corner", 2)]) rfl scStraightIn.nd (pi_enumM true (by rfl) B.enumerate (pa_cons (pe_fld (pv 0) rfl) pa_nil)) (blkOk_by (N := ["fence", "at", "corner"]) (sc := defScope s_straight_in) (by decide +kernel)) (fun _ _ _ _ _ => (tgk K 2 rfl (pgs_cons (pg_name (i := 1) scStraightIn.nd rfl (Or.inl rfl)) (pgs_cons (pg_name (i := 2) scStraightIn.nd rfl (Or.inl rfl)) pgs_nil)))) (fun _ _ _ _ _ => pts_one (pt_not (pt_val (pe_c C_is_straight hr (by decide) rfl (pa_cons (pv 0) (pa_cons (pv 1) pa_nil)))))) (fun _ _ _ _ _ => (pv 2))) (pa_cons pe_bl pa_nil))))), ?_⟩
    obtain ⟨a, dx, c, t, us, ss, rfl, a1, a2, a3, a4, a5⟩ := hv.ex
    have hlu : us.length = ps.length := a3.length
    refine ⟨_, rfl, a, C, dx, _, _, rfl, a1, FC.ins.cl, FC.n1, rfl, c, us, rfl, a2.sq, fun D hD => ?_⟩
    refine lc_gen (walk_enumM (b := true) (xs := us)) (List.range ps.length) (fun i => !strT ps i) (fun i => ps.getD i (0, 0)) IsPt (by rw [List.length_range, hlu]) (by rw [hlu]; exact Nat.le_trans h1 (by decide)) pt_kt hD (fun H s => (a2.same s).sq) (fun i e y H0 H' Ny Ns ee s Y hy hn => ?_) (fun ys H2 s e p => ?_)
    · obtain ⟨T, x, z, rfl, hT, rfl, ex, ez⟩ := Y
      cases ex
      have he : e = i ∧ i < ps.length := by
        rw [List.getElem?_range] at ee
        · exact ⟨(Option.some.inj ee).symm, by have := (List.getElem?_eq_some_iff.mp ez).1; omega⟩
        · have := (List.getElem?_eq_some_iff.mp ez).1
          omega
      obtain ⟨rfl, hi⟩ := he
      have s1 := sameU (o := .tup [.int (e : Nat), z]) (Same.refl H0) hT
      have sF : Same H (upd H0 T (.tup [.int (e : Nat), z])) := fun b u q => s1 _ _ (s _ _ q)
      refine ⟨T, _, rfl, sqt upd_same, rfl, _, _, rfl, ?_⟩
      refine ⟨_, _, rfl, ?_⟩
      refine ⟨rfl, rfl, ?_⟩
      refine ⟨_, rfl, _, rfl, .ref a, e, ps, rfl, hv.same sF, hi, sm, ?_⟩
      refine ⟨_, rfl, ite_t (fun h => ?_) (fun h => hn h _ s1)⟩
      refine ⟨_, rfl, hy h _ _ s1 ?_⟩
      obtain ⟨p, ep, rp⟩ := Paired.at (Paired.kt pt_kt (same_kt sF) a3) ez
      rw [List.getD_eq_getElem?_getD, ep]
      exact rp
    · have p : Pts H2 ys (strL ps) := p
      have := strL_len ps
      exact fence_made (b := false) (sql e) p h0 (by omega) (fun q hq => sm q (strL_sub hq)) (fun z => nomatch z) fun H3 v' s3 f3 => k H3 v' (fun b u q => s3 _ _ (s _ _ q)) f3
end
end Bay
namespace Bay
open PySem PySem.Spec PyProof.Rows L2
open C8 (Cal pe_c Mak pe_mk)
/-! ## {k: v for x in ..}, the keys tuples -/
section
variable {X : Cx}
/-- the new dict stands at D; a key is a tuple that is tracked -/
def tDcT (wi : TI) (g : TG) (tk tv : TE) (vs : List Nat) : TE := fun σ H Q => wi σ H fun J H1 => ∀ D, H1 D = none → ∃ W : Nat → Nat → Hp → Prop, (∃ m, W 0 m (upd H1 D (.dT []))) ∧ ∀ i m H, W i m H →
  (J.stop i H ∧ Q (.ref D) H) ∨ (J.go i H ∧ ∃ Nx : Hp → Prop, (∀ H', Nx H' → ∃ m', m' < m ∧ W (i + 1) m' H') ∧ ∀ x H', J.yld i H x H' → g x (wipe σ vs) H' fun σ2 H2 => wipe σ2 vs = wipe σ vs ∧
    tk σ2 H2 fun y H3 => tv σ2 H3 fun z H4 => ∃ (kvs : List (List Key × V)) (k : List Key) (b : Addr), y = .ref b ∧ H4 b = some (.tup (k.map kV)) ∧ H4 D = some (.dT kvs) ∧ kvs.length < sizeLine ∧ Nx (upd H4 D (.dT (putK kvs k z))))
/-- the store of a turn -/
theorem dcT_put {pins : List (Addr × Obj)} {σ : L2.St} {H : Hp} {s : Shared} {E : Value → Shared → Prop} {D b : Addr} {kvs : List (List Key × V)} {k : List Key} {v : V} {u r : Value} {Q : Unit → Shared → Prop} (hu : X.A.units < cLine) (I : Inv X pins σ H s)
    (hD : H D = some (.dT kvs)) (hb : H b = some (.tup (k.map kV))) (hz : kvs.length < sizeLine) (ru : RelV (.ref b) u) (rr : RelV v r) (hQ : ∀ s', Inv X pins σ (upd H D (.dT (putK kvs k v))) s' → Q () s') : wpAny (model X.prog X.w) X.A (dictSet D u r) Q E s := by
  cases (show u = Value.ref b from ru)
  obtain ⟨z, nsm, xs, rel, dd⟩ := dt_of I.hok hD
  have zx : xs.length ≤ sizeLine := Paired.length rel ▸ z
  have grow := length_putK kvs k v
  refine wpAny_dictSet_heap (hsz := zx) hu (key_of I.hok hb) dd fun h' d2 same => hQ _ ?_
  obtain ⟨ob, es, ep, e1, e2, e3, e4, _, e6⟩ := d2
  refine d_write I (by rw [hD]; trivial) same ⟨ob, e1⟩ ⟨by omega, nsm, _, ?_, ob, es, ep, e1, e2, e3, e4, e6⟩
  exact (rel.put k hb rr).keeps fun c ys ec => by
    rw [upd_ne (ne_of ec hD fun q => nomatch q)]
    exact ec
end
section
variable {X : Cx}
/-- what is known of a comprehension's block -/
theorem pe_dcT {kx vx tg iter : Expr} {scope : Scope} {own : List (Str × Nat)} {pos : Pos} {wi : TI} {g : TG} {tk tv : TE} (hu : X.A.units < cLine) (hc : X.calm = true) (hN : X.N.Nodup) (hi : PI X tg iter wi) (ok : BlkOk X.N X.env.scope scope own)
    (hg : ∀ (s : Shared) (H : Hp) (C : Addr) (cl : List (Str × Addr)) (fp : List Addr), PG (X.blk s H scope (compEnvC scope cl C X.env) fp) tg g)
    (hk : ∀ (s : Shared) (H : Hp) (C : Addr) (cl : List (Str × Addr)) (fp : List Addr), PE (X.blk s H scope (compEnvC scope cl C X.env) fp) kx tk)
    (hv : ∀ (s : Shared) (H : Hp) (C : Addr) (cl : List (Str × Addr)) (fp : List Addr), PE (X.blk s H scope (compEnvC scope cl C X.env) fp) vx tv) (hs : ∀ x, foldedSetIterable iter X.env x = pure x := by intro _; rfl) :
    PE X (.DictComp kx vx [⟨tg, iter, [], 0⟩] scope pos) (tDcT wi g tk tv (own.map (·.2))) := by
  refine ⟨fun pins s σ H Q I want => ?_⟩
  rw [arm_eval_DictComp]
  have clo : ∀ y ∈ scope.names, y.2 = .free → ∃ c, X.env.cells.lookup y.1 = some c := fun y hy e => (ok.free y hy e).elim (fun q => I.ok.has _ (.inl q)) fun q => I.ok.has _ (.inr q)
  refine wpAny_comprehension_free rfl hs (closure_ok clo) ok.kind (fun y hy e => by rw [ok.uniq y hy, e]) (thn (hi.run pins s σ H _ I want) fun _ sA hA => thn hA fun _ sB hB => ?_)
  obtain ⟨it, fp, tn, Jt, HB, rfl, IB, Tu, stB, fB, want⟩ := hB
  refine wpAny_newObj_type (newEnv_comp ?_)
  -- the dict, at the heap's end
  have nD : HB sB.heap.objs.size = none := IB.hok.fresh (Nat.le_refl _)
  obtain ⟨W, ⟨m0, w0⟩, turns⟩ := want _ nD
  have grown : ∀ b o, sB.heap.get? b = some o → (sB.heap.push { cls := .type "dict", data := .dict #[] }).get? b = some o := fun b o e => Heap.get?_push_of_some _ e
  have IC : Inv X pins σ (upd HB sB.heap.objs.size (.dT [])) { sB with heap := sB.heap.push { cls := .type "dict", data := .dict #[] } } :=
    IB.laid (t' := sB.toks) grown (Nat.le_refl _) (dt_empty sB.heap IB.big)
  have low : ∀ b ∈ fp, b < sB.heap.objs.size := fun b hb => by
    obtain ⟨o, e, _⟩ := Tu.obj _ _ stB b hb
    exact Heap.lt_size e
  have stC := Tu.keep _ _ _ stB fun b _ o e => grown b o e
  generalize hDD : sB.heap.objs.size = D at nD w0 turns IC low ⊢
  generalize hsC : ({ sB with heap := sB.heap.push { cls := .type "dict", data := .dict #[] } } : Shared) = sC at IC ⊢
  have hCsz : sC.heap.objs.size = D + 1 := by rw [← hsC, ← hDD]; exact Heap.size_push ..
  have hCh : sC.heap = sB.heap.push { cls := .type "dict", data := .dict #[] } := by rw [← hsC]
  rw [← hCh] at stC
  generalize hHC : upd HB D (.dT []) = HC at IC w0
  have fC : ∀ b ∈ fp, FpOk X pins HC b ∧ b < sC.heap.objs.size := fun b hb => by
    refine ⟨⟨?_, (fB b hb).2⟩, by rw [hCsz]; exact Nat.lt_succ_of_lt (low b hb)⟩
    rw [← hHC, upd_ne (Nat.ne_of_lt (low b hb))]
    exact (fB b hb).1
  have IE := block_start IC ok hN fC
  generalize hcl : cellsFrom (sC.heap.objs.size + 1) scope.names (cloFrom X.env.cells scope.names []) = cells at IE
  have rg := hg sC HC sC.heap.objs.size cells fp
  have rk := hk sC HC sC.heap.objs.size cells fp
  have rv := hv sC HC sC.heap.objs.size cells fp
  -- the block's start
  show codeAny (model X.prog X.w) X.A (.compStart (.DictComp kx vx [⟨tg, iter, [], 0⟩] scope pos) 0 (.ref it) (.ref D) (compEnvC scope cells sC.heap.objs.size X.env)) (compPost (model X.prog X.w) X.A X.xe none (EP X pins σ Q) (.ref D) sC.heap.objs.size) { sC with heap := pushCells (sC.heap.push { cls := .type "dict", data := .dict #[] }) scope.names }
  generalize hce : compEnvC scope cells sC.heap.objs.size X.env = ce at IE rg rk rv ⊢
  have cL : ce.locals = sC.heap.objs.size := by rw [← hce]; rfl
  have up4 : ∀ b o, sC.heap.get? b = some o → (pushCells (sC.heap.push { cls := .type "dict", data := .dict #[] }) scope.names).get? b = some o := fun b o e => pushCells_keeps _ _ _ _ (Heap.get?_push_of_some _ e)
  generalize hsE : ({ sC with heap := pushCells (sC.heap.push { cls := .type "dict", data := .dict #[] }) scope.names } : Shared) = sE at IE ⊢
  have stE : tn 0 sE.heap := Tu.keep _ _ _ stC fun b _ o e => by rw [← hsE]; exact up4 b o e
  let X2 := X.blk sC HC scope ce fp
  have okF : ∀ {σ' : L2.St} {H' : Hp} {s' : Shared}, Inv X2 [] σ' H' s' → (∀ b ∈ fp, H' b = none) → ∀ b ∈ fp, FpOk X2 [] H' b := fun {σ' H' s'} I2 hn b hb => by
    refine ⟨hn b hb, (I2.ok.exf b hb).1, I2.ok.exfs b hb, .inl hb, fun x c e => (I2.ok.exf b hb).2 x c e, fun p hp => ?_⟩
    have hp : p ∈ ([] : List (Addr × Obj)) ++ [] := hp
    simp at hp
  have noneC : ∀ b ∈ fp, HC b = none := fun b hb => (fC b hb).1.1
  have run : codeAny (model X.prog X.w) X.A (.compLoop (.DictComp kx vx [⟨tg, iter, [], 0⟩] scope pos) 0 (.ref it) (.ref D) ce) (compPost (model X.prog X.w) X.A X.xe none (EP X pins σ Q) (.ref D) sC.heap.objs.size) sE := by
    refine compLoop_anyD (fun n s' => ∃ i H', Inv X2 [] (wipe σ (own.map (·.2))) H' s' ∧ tn i s'.heap ∧ (∀ b ∈ fp, H' b = none) ∧ W i n H') ?_ m0 ⟨0, HC, IE, stE, noneC, w0⟩
    rintro n s5 ⟨i, H5, I5, st5, n5, w5⟩
    rcases turns i n H5 w5 with ⟨halt, answer⟩ | ⟨more, Nx, lower, turn⟩
    · refine thnF (Tu.done X2 rfl rfl rfl hc i [] s5 _ H5 (fun _ _ => False) I5 (okF I5 n5) st5 halt) fun r s6 ⟨er, I6⟩ => ?_
      subst er
      have out : Inv X pins σ H5 s6 := IC.call' (ch := fp) I6.os I6.base I6.hok I6.bare fun b hb => ⟨(fC b hb).1.2.2.2.1, (fC b hb).1.2.1, (fC b hb).1.2.2.2.2.1, (fC b hb).1.2.2.2.2.2⟩
      have free : H5 sC.heap.objs.size = none := cL ▸ (show H5 ce.locals = none from I6.free)
      obtain ⟨m, hm, _⟩ := I6.loc
      have hm : s6.heap.Ns sC.heap.objs.size m := cL ▸ (show s6.heap.Ns ce.locals m from hm)
      refine ⟨m, hm, fun h2 same => ?_⟩
      obtain ⟨a0, a1, a2, a3, a4, a5⟩ := IC.fpOk (Nat.le_refl _) free
      exact ⟨.ref D, H5, out.turned (t' := s6.toks) (fun b o hb e => (same.2 b hb).trans e) a0 a1 a3 a4 a5, rfl, answer⟩
    · refine thnF (Tu.item X2 rfl rfl rfl hc i [] s5 _ H5 (fun _ _ => False) I5 (okF I5 n5) st5 more) fun r s6 ⟨u, er, h6⟩ => ?_
      subst er
      refine thnF h6 fun _ s7 ⟨x, H7, I7, r7, y7, st7, n7⟩ => ?_
      have I7p := I7.pinned (okF I7 n7) (Tu.obj _ _ st7)
      refine thnF (rg.run _ s7 _ H7 x u _ I7p r7 (turn x H7 y7)) fun _ s8 ⟨σ8, H8, I8, ew, q8⟩ => ?_
      refine thnF (wpAny_tests_nil (Q := fun ok' s' => ok' = true ∧ s' = s8) ⟨rfl, rfl⟩) fun okv s9 hok => ?_
      obtain ⟨rfl, rfl⟩ := hok
      rw [if_pos rfl]
      refine thnF (rk.run _ s9 σ8 H8 _ I8 q8) fun kz s10 ⟨yk, H10, I10, r10, q10⟩ => thnF (rv.run _ s10 σ8 H10 _ I10 q10) fun vz s11 ⟨yv, H11, I11, r11, kvs, k, b, ey, hb, hD, hz, nx⟩ => ?_
      subst ey
      refine dcT_put (X := X2) hu I11 hD hb hz r10 r11 fun s12 I12 => ?_
      obtain ⟨m', lt, w12⟩ := lower _ nx
      have held : ∀ c ∈ fp, ∀ o, s7.heap.get? c = some o → s12.heap.get? c = some o ∧ upd H11 D (.dT (putK kvs k yv)) c = none := fun c hcm o e => by
        have z := I12.pin (c, o) (List.mem_append_right _ (List.mem_append_right _ (mem_pinsAt hcm e)))
        exact ⟨z.1, z.2.1⟩
      have wl : (wipe σ (own.map (·.2))).length = σ8.length := by rw [← ew, wipe_length]
      refine ⟨m', lt, i + 1, _, (I12.unpinned (pins := [])).weak wl (fun j v e => ?_), Tu.keep _ _ _ st7 fun c hcm o e => (held c hcm o e).1, fun c hcm => ?_, w12⟩
      · rw [← ew] at e
        exact (wipe_some e).1
      · obtain ⟨o, e, _⟩ := Tu.obj _ _ st7 c hcm
        exact (held c hcm o e).2
  exact codeAny_compStart_dict run (Tu.self X.A 0 _ _ _ stE run)
end
end Bay
namespace Bay
open PySem PySem.Spec PyProof.Rows L2
open C8 (Cal pe_c Mak pe_mk)
theorem dcT_gen {J : It} {n : Nat} {G : Hp → Prop} {Y : Nat → Hp → V → Hp → Prop} (w : Walk J n G Y) {α : Type} (as : List α) (key : α → List Key) (val : α → V) (len : as.length = n) (hn : n ≤ sizeLine)
    {g : TG} {tk tv : TE} {vs : List Nat} {σ : L2.St} {H1 : Hp} {D : Addr} {Qd : Hp → Prop} (hD : H1 D = none) (hG : ∀ H, Same H1 H → G H)
    (hs : ∀ i a x H H' (Nf : V → V → Hp → Prop), as[i]? = some a → Same H1 H → Y i H x H' → (∀ b H4, Same H H4 → H4 b = some (.tup ((key a).map kV)) → Nf (.ref b) (val a) H4) →
      g x (wipe σ vs) H' fun σ2 H2 => wipe σ2 vs = wipe σ vs ∧ tk σ2 H2 fun y H3 => tv σ2 H3 fun z H4 => Nf y z H4)
    (hd : ∀ H, Same H1 H → H D = some (.dT (as.foldl (fun d a => putK d (key a) (val a)) [])) → Qd H) :
    ∃ W : Nat → Nat → Hp → Prop, (∃ m, W 0 m (upd H1 D (.dT []))) ∧ ∀ i m H, W i m H →
      (J.stop i H ∧ Qd H) ∨ (J.go i H ∧ ∃ Nx : Hp → Prop, (∀ H', Nx H' → ∃ m', m' < m ∧ W (i + 1) m' H') ∧ ∀ x H', J.yld i H x H' → g x (wipe σ vs) H' fun σ2 H2 => wipe σ2 vs = wipe σ vs ∧
        tk σ2 H2 fun y H3 => tv σ2 H3 fun z H4 => ∃ (kvs : List (List Key × V)) (k : List Key) (b : Addr), y = .ref b ∧ H4 b = some (.tup (k.map kV)) ∧ H4 D = some (.dT kvs) ∧ kvs.length < sizeLine ∧ Nx (upd H4 D (.dT (putK kvs k z)))) := by
  subst len
  have short : ∀ i, ((as.take i).foldl (fun d a => putK d (key a) (val a)) []).length ≤ i := by
    intro i
    induction i with
    | zero => simp
    | succ i ih =>
      cases h : as[i]? with
      | none =>
        have hl : as.length ≤ i := List.getElem?_eq_none_iff.mp h
        rw [List.take_of_length_le (Nat.le_succ_of_le hl)]
        rw [List.take_of_length_le hl] at ih
        omega
      | some a =>
        rw [take_snoc h, List.foldl_append]
        have := length_putK ((as.take i).foldl (fun d a => putK d (key a) (val a)) []) (key a) (val a)
        simp only [List.foldl_cons, List.foldl_nil]
        omega
  refine ⟨fun i m H => m = as.length - i ∧ i ≤ as.length ∧ Same H1 H ∧ H D = some (.dT ((as.take i).foldl (fun d a => putK d (key a) (val a)) [])), ⟨as.length, by simp, Nat.zero_le _, sameU (Same.refl H1) hD, upd_same⟩, ?_⟩
  rintro i m H ⟨rfl, hi, s, e⟩
  by_cases hlt : i < as.length
  · have ea : as[i]? = some as[i] := List.getElem?_eq_getElem hlt
    refine .inr ⟨w.goes i H hlt (hG H s), fun H' => Same H1 H' ∧ H' D = some (.dT ((as.take (i + 1)).foldl (fun d a => putK d (key a) (val a)) [])), fun H' p => ⟨as.length - (i + 1), by omega, rfl, hlt, p.1, p.2⟩, fun x H' y => ?_⟩
    refine hs i as[i] x H H' _ ea s (w.yields i H x H' hlt (hG H s) y) fun b H4 s4 hb => ?_
    have := short i
    refine ⟨_, key as[i], b, rfl, hb, s4 D _ e, by omega, fun c u q => ?_, ?_⟩
    · rw [upd_ne (ne_of_none q hD)]
      exact s4 c u (s c u q)
    · rw [take_snoc ea, List.foldl_append]
      exact upd_same
  · have e2 : i = as.length := by omega
    subst e2
    rw [List.take_length] at e
    exact .inl ⟨w.stops H (hG H s), hd H s e⟩
def keyL (p : Pt) : List Key := [.inl p.1, .inl p.2]
theorem keyL_inj {a b : Pt} (h : keyL a = keyL b) : a = b := by
  unfold keyL at h
  simp only [List.cons.injEq, Sum.inl.injEq, and_true] at h
  exact Prod.ext h.1 h.2
theorem keyL_val (p : Pt) : (keyL p).map kV = [.int p.1, .int p.2] := rfl
/-- in the order in which they come first -/
def uniq (ds : List Pt) : List Pt := ds.foldl (fun D d => if d ∈ D then D else D ++ [d]) []
theorem uniq_fold : ∀ (ds D : List Pt), D.Nodup → (ds.foldl (fun D d => if d ∈ D then D else D ++ [d]) D).Nodup ∧ ∀ d, d ∈ ds.foldl (fun D d => if d ∈ D then D else D ++ [d]) D ↔ d ∈ D ∨ d ∈ ds
  | [], D, h => ⟨h, fun d => by simp⟩
  | x :: t, D, h => by
    rw [List.foldl_cons]
    by_cases hx : x ∈ D
    · rw [if_pos hx]
      obtain ⟨h1, h2⟩ := uniq_fold t D h
      refine ⟨h1, fun d => ?_⟩
      rw [h2, List.mem_cons]
      constructor
      · rintro (a | a)
        · exact .inl a
        · exact .inr (.inr a)
      · rintro (a | a | a)
        · exact .inl a
        · exact .inl (a ▸ hx)
        · exact .inr a
    · rw [if_neg hx]
      obtain ⟨h1, h2⟩ := uniq_fold t (D ++ [x]) (by
        rw [List.nodup_append]
        refine ⟨h, by simp, fun a ha b hb e => ?_⟩
        rw [List.mem_singleton] at hb
        exact hx (hb ▸ e ▸ ha))
      refine ⟨h1, fun d => ?_⟩
      rw [h2, List.mem_cons, List.mem_append, List.mem_singleton]
      constructor
      · rintro ((a | a) | a)
        · exact .inl a
        · exact .inr (.inl a)
        · exact .inr (.inr a)
      · rintro (a | a | a)
        · exact .inl (.inl a)
        · exact .inl (.inr a)
        · exact .inr a
theorem uniq_nd (ds : List Pt) : (uniq ds).Nodup := (uniq_fold ds [] List.nodup_nil).1
theorem uniq_mem (ds : List Pt) (d : Pt) : d ∈ uniq ds ↔ d ∈ ds := by
  have := (uniq_fold ds [] List.nodup_nil).2 d
  unfold uniq
  simpa using this
theorem any_key {D : List Pt} {d : Pt} (v : Pt → V) : ((D.map fun d => (keyL d, v d)).any fun kv => decide (kv.1 = keyL d)) = decide (d ∈ D) := by
  induction D with
  | nil => simp
  | cons a t ih =>
    rw [List.map_cons, List.any_cons, ih]
    by_cases h : a = d
    · subst h; simp
    · have h2 : ¬ keyL a = keyL d := fun e => h (keyL_inj e)
      have h3 : ¬ d = a := fun e => h e.symm
      simp [h2, h3]
theorem known_fold : ∀ (ds D : List Pt), ds.foldl (fun d a => putK d (keyL a) (.bl true)) (D.map fun d => (keyL d, V.bl true)) = (ds.foldl (fun D d => if d ∈ D then D else D ++ [d]) D).map fun d => (keyL d, V.bl true)
  | [], D => rfl
  | x :: t, D => by
    rw [List.foldl_cons, List.foldl_cons, ← known_fold t]
    congr 1
    unfold putK
    rw [any_key fun _ => V.bl true]
    by_cases hx : x ∈ D
    · rw [if_pos (by simpa using hx), if_pos hx, List.map_map]
      refine List.map_congr_left fun d _ => ?_
      show (if keyL d = keyL x then (keyL d, V.bl true) else (keyL d, V.bl true)) = _
      split <;> rfl
    · rw [if_neg (by simpa using hx), if_neg hx, List.map_append]
      rfl
theorem num_fold (v : Pt → V) : ∀ (ds D : List Pt), (D ++ ds).Nodup → ds.foldl (fun d a => putK d (keyL a) (v a)) (D.map fun d => (keyL d, v d)) = (D ++ ds).map fun d => (keyL d, v d)
  | [], D, _ => by simp
  | x :: t, D, h => by
    have hx : x ∉ D := fun hm => by
      rw [List.nodup_append] at h
      exact h.2.2 x hm x (List.mem_cons_self ..) rfl
    rw [List.foldl_cons]
    have e : putK (D.map fun d => (keyL d, v d)) (keyL x) (v x) = (D ++ [x]).map fun d => (keyL d, v d) := by
      unfold putK
      rw [any_key v, if_neg (by simpa using hx), List.map_append]
      rfl
    rw [e, num_fold v t (D ++ [x]) (by simpa using h)]
    simp
/-- the block of a comprehension that a statement returns -/
def retE : Stmt → Expr
  | .Return (some e) _ => e
  | _ => .Name "" ⟨0, 0, 0, 0⟩
def blkScope : Expr → Scope
  | .DictComp _ _ _ s _ => s
  | .ListComp _ _ s _ => s
  | _ => ⟨.function, [], false, false, []⟩
section
variable {P : Program} {w : World} {K : PySem.W.Frag} {mg : Str → Option Value} {base : Heap}
theorem len_k {X : Cx} (K : PySem.W.Frag) (h : X.K = K) : CallR X (.builtin "len") (fun xs H Q => ∃ p ys, xs = [.ref p] ∧ (SqL K H p ys ∨ SqT K H p ys) ∧ Q (.int ys.length) H) := h ▸ call_len_seq
def env0 (sc : Scope) : Env := { scope := sc, locals := 0, globals := 0, cells := [], qual := "", func := none, code := .none, frame := none, builtins := 0 }
theorem tsum_count {α : Type} (p : α → Bool) : ∀ l : List α, tsum (fun f => u01 (p f)) l = ((l.filter p).length : Int)
  | [] => rfl
  | a :: t => by
    show u01 (p a) + tsum (fun f => u01 (p f)) t = _
    rw [tsum_count p t, List.filter_cons]
    cases h : p a
    · simp [u01]
    · simp [u01]; omega
def numD (D : List Pt) : List (List Key × V) := D.map fun d => (keyL d, V.int (num D d))
def spNum : Sp := fun vs H Q _ => ∃ (l : Addr) (us : List V) (ds : List Pt), vs = [.ref l] ∧ H l = some (.lst us) ∧ Pts H us ds ∧ ds.length ≤ 1000 ∧ (∀ d ∈ ds, Sm (2 ^ 64) d) ∧ ∀ H' p D, Same H H' → H' p = some (.dT (numD D)) → D.Nodup → (∀ d, d ∈ D ↔ d ∈ ds) → Q (.ref p) H'
theorem scNumbered : FnScope ["directions", "known", "each", "other"] ["directions"] (defScope s_numbered) := ⟨rfl, rfl, rfl, by decide +kernel, rfl, by decide +kernel, by decide +kernel⟩
theorem c_numbered (B : Bn mg) (C_is_ahead : Cal P w K mg base 2 "is_ahead" spAhead []) (F : Has K mg "numbered" s_numbered ["directions"]) : Cal P w K mg base 3 "numbered" spNum [] := by
  refine F.cal scNumbered (fun vs H Q E h => ?_) (fun f cdv A outer s H vs Q E hr h => ?_)
  · obtain ⟨_, _, _, rfl, _⟩ := h
    rfl
  · obtain ⟨l, us, ds, rfl, hl, hp, h1, sm, k⟩ := h
    have hu : ∀ n, n + 64 < cLine → n < cLine := fun n h => by omega
    refine ⟨_, (pss_cons (ps_set (i := 1) scNumbered.nd rfl (Or.inr rfl) (pe_dcT (own := [("each", 2)]) (hu _ hr.units) rfl scNumbered.nd (pi_list (pv 0)) (blkOk_by (N := ["directions", "known", "each", "other"]) (sc := defScope s_numbered) (by decide +kernel)) (fun _ _ _ _ _ => pg_name (i := 2) scNumbered.nd rfl (Or.inl rfl)) (fun _ _ _ _ _ => pv 2) (fun _ _ _ _ _ => pe_bl)))
      (pss_one (ps_ret (pe_lock (pe_dcT (own := [("each", 2)]) (hu _ hr.units) rfl scNumbered.nd (pi_keys (pv 1)) (blkOk_by (N := ["directions", "known", "each", "other"]) (sc := defScope s_numbered) (by decide +kernel)) (fun _ _ _ _ _ => pg_name (i := 2) scNumbered.nd rfl (Or.inr rfl)) (fun _ _ _ _ _ => pv 2)
        (fun _ _ _ _ _ => pe_callB (len_k K rfl) (by rfl) B.len (by decide +kernel) (pa_cons (pe_lc (own := [("other", 3)]) rfl scNumbered.nd (pi_keys (pv 1)) (blkOk_by (N := ["directions", "known", "each", "other"]) (sc := relabel (blkScope (retE ((defBody s_numbered).getD 1 (.Pass ⟨0, 0, 0, 0⟩)))) (env0 (defScope s_numbered))) (by decide +kernel)) (fun _ _ _ _ _ => pg_name (i := 3) scNumbered.nd rfl (Or.inl rfl)) (fun _ _ _ _ _ => pts_one (pt_val (pe_c C_is_ahead hr (by decide) rfl (pa_cons (pv 3) (pa_cons (pv 2) pa_nil))))) (fun _ _ _ _ _ => pv 3)) pa_nil))))))), ?_⟩
    have hlu : us.length = ds.length := hp.length
    have m1 : ∀ d ∈ uniq ds, Sm (2 ^ 64) d := fun d hd => sm d ((uniq_mem ds d).mp hd)
    refine ⟨_, rfl, l, rfl, ⟨_, sql hl⟩, fun D hD => ?_⟩
    refine dcT_gen (walk_list (xs := us)) ds keyL (fun _ => .bl true) hlu.symm (by rw [hlu]; exact Nat.le_trans h1 (by decide)) hD (fun H s => sql (s _ _ hl)) (fun i e y H0 H' Nf ee s Y hf => ?_) (fun H2 s2 e2 => ?_)
    · obtain ⟨rfl, ey⟩ := Y
      obtain ⟨y2, ey2, r⟩ := Paired.at2 hp ee
      rw [ey] at ey2
      cases ey2
      obtain ⟨T, rfl, hT⟩ := r
      exact ⟨rfl, _, rfl, hf T _ (Same.refl _) (s _ _ hT)⟩
    have e2 : H2 D = some (.dT ((uniq ds).map fun d => (keyL d, V.bl true))) := e2.trans (congrArg (fun z => some (HO.dT z)) (known_fold ds []))
    refine ⟨D, _, e2, trivial, fun od => ?_⟩
    have n2 : ∀ b u, H b = some u → b ≠ D := fun b u q => ne_of_none q hD
    have s3 : Same H (upd H2 D (.frz od (.dT ((uniq ds).map fun d => (keyL d, V.bl true))))) := fun b u q => by
      rw [upd_ne (n2 b u q)]
      exact s2 b u q
    have e3 : (upd H2 D (.frz od (.dT ((uniq ds).map fun d => (keyL d, V.bl true))))) D = some (.frz od (.dT ((uniq ds).map fun d => (keyL d, V.bl true)))) := upd_same
    generalize upd H2 D (.frz od (.dT ((uniq ds).map fun d => (keyL d, V.bl true)))) = H3 at s3 e3 ⊢
    have lu : (uniq ds).length ≤ ds.length := sub_len (uniq_nd ds) fun d hd => (uniq_mem ds d).mp hd
    have ln : (uniq ds).length ≤ sizeLine := Nat.le_trans (Nat.le_trans lu h1) (by decide)
    refine ⟨_, rfl, D, od, rfl, .inr ⟨_, e3, fun D2 hD2 => ?_⟩⟩
    refine dcT_gen (walk_keysT) (uniq ds) keyL (fun d => .int (num (uniq ds) d)) (by rw [List.length_map]) (by rw [List.length_map]; exact ln) hD2 (fun H s => s _ _ e3) (fun i d y H0 H' Nf ee s Y hf => ?_) (fun H5 s5 e5 => ?_)
    · obtain ⟨rfl, kk, vv, q, ek, rfl, hq⟩ := Y
      rw [List.getElem?_map, ee] at ek
      cases ek
      refine ⟨rfl, _, rfl, ?_⟩
      refine ⟨_, rfl, D, od, rfl, .inr ⟨_, s _ _ e3, fun D3 hD3 => ?_⟩⟩
      refine lc_gen (walk_keysT) (uniq ds) (fun f => ahead f d) id IsPt (by rw [List.length_map]) (by rw [List.length_map]; exact ln) pt_kt hD3 (fun H s7 => s7 _ _ (s _ _ e3)) (fun j f z H6 H7 Ny Ns ef s6 Y2 hy hn => ?_) (fun ys H8 s8 e8 p8 => ?_)
      · obtain ⟨rfl, k2, v2, q2, ek2, rfl, hq2⟩ := Y2
        rw [List.getElem?_map, ef] at ek2
        cases ek2
        refine ⟨rfl, ?_⟩
        refine ⟨_, rfl, _, rfl, .ref q2, .ref q, f, d, rfl, ⟨q2, rfl, hq2⟩, ⟨q, rfl, s6 _ _ hq⟩, m1 f (mem_at ef), ?_⟩
        refine ⟨_, rfl, ite_t (fun h => ?_) (fun h => hn h _ (Same.refl _))⟩
        exact ⟨_, rfl, hy h _ _ (Same.refl _) ⟨q2, rfl, hq2⟩⟩
      · rw [List.map_id] at p8
        refine ⟨D3, ys, rfl, .inl (sql e8), ?_⟩
        have hlen : ((ys.length : Nat) : Int) = num (uniq ds) d := by
          unfold num
          rw [tsum_count (fun f => ahead f d), p8.length]
        rw [hlen]
        exact hf q H8 (fun b u z => s8 _ _ z) (s8 _ _ hq)
    · have e5 : H5 D2 = some (.dT (numD (uniq ds))) := e5.trans (congrArg (fun z => some (HO.dT z)) (by
        have := num_fold (fun d => .int (num (uniq ds) d)) (uniq ds) [] (by simpa using uniq_nd ds)
        simpa [numD] using this))
      have ne : D2 ≠ D := fun z => by rw [z, e3] at hD2; cases hD2
      refine ⟨s5 _ _ e3, k _ D2 (uniq ds) (fun b u q => ?_) (by rw [upd_ne ne]; exact e5) (uniq_nd ds) (uniq_mem ds)⟩
      rw [upd_ne (n2 b u q)]
      exact s5 _ _ (s3 b u q)
end
end Bay
namespace Bay
open PySem PySem.Spec PyProof.Rows L2
open C8 (Cal pe_c Mak pe_mk)
/-! ## plain data -/
theorem shp_all {n : Nat} : ∀ {ds : List PyData}, (∀ d ∈ ds, d.canLay0 = true ∧ d.depth ≤ n) → PyData.canLayAll0 ds = true ∧ PyData.depthAll ds ≤ n
  | [], _ => ⟨rfl, Nat.zero_le _⟩
  | d :: t, h => by
    have h1 := h d (List.mem_cons_self ..)
    have h2 := shp_all (ds := t) fun x hx => h x (List.mem_cons_of_mem _ hx)
    refine ⟨?_, ?_⟩
    · show (PyData.canLay0 d && PyData.canLayAll0 t) = true
      rw [h1.1, h2.1]
      rfl
    · show max (PyData.depth d) (PyData.depthAll t) ≤ n
      omega
theorem shp_list {ds : List PyData} (h : ∀ d ∈ ds, d.canLay0 = true ∧ d.depth ≤ 8) : SeqAt.shaped (.list ds) = true := by
  obtain ⟨h1, h2⟩ := shp_all h
  show (PyData.canLay0 (.list ds) && decide (PyData.depth (.list ds) ≤ 64)) = true
  have e1 : PyData.canLay0 (.list ds) = true := h1
  have e2 : PyData.depth (.list ds) ≤ 64 := by
    show PyData.depthAll ds + 1 ≤ 64
    omega
  rw [e1, decide_eq_true e2]
  rfl
def dPt (p : Pt) : PyData := .tuple [.int p.1, .int p.2]
def dIP (q : Int × Pt) : PyData := .tuple [.int q.1, dPt q.2]
theorem dp_pt {K : PySem.W.Frag} {H : Hp} {v : V} {p : Pt} (h : IsPt H v p) : Dp K H v (dPt p) := by
  obtain ⟨a, rfl, e⟩ := h
  exact .tup (sqt e) (.cons (.int _) (.cons (.int _) .nil))
theorem dp_ips {K : PySem.W.Frag} {H : Hp} : ∀ {vs : List V} {qs : List (Int × Pt)}, Paired (Two IsI IsPt H) vs qs → DpAll K H vs (qs.map dIP)
  | _, _, .nil => .nil
  | _, _, .cons r t => by
    obtain ⟨a, x, y, rfl, e, h1, h2⟩ := r
    cases h1
    exact .cons (.tup (sqt e) (.cons (.int _) (.cons (dp_pt h2) .nil))) (dp_ips t)
theorem shp_ips (qs : List (Int × Pt)) : SeqAt.shaped (.list (qs.map dIP)) = true := shp_list fun d hd => by
  obtain ⟨q, _, rfl⟩ := List.mem_map.mp hd
  exact ⟨rfl, by show 2 ≤ 8; decide⟩
theorem eqv_nil (ds : List PyData) : PyData.eqv (.list ds) (.list []) = ds.isEmpty := by cases ds <;> rfl
section
variable {P : Program} {w : World} {K : PySem.W.Frag} {mg : Str → Option Value} {base : Heap}
/-- found.append((x, y)) -/
theorem app_pair {E : Ends} {σ : L2.St} {H : Hp} {D : Addr} {vs : List V} {x y : V} {i j l : Nat} (h1 : σ[i]? = some (some (.ref D))) (h2 : σ[j]? = some (some x)) (h3 : σ[l]? = some (some y)) (e : H D = some (.lst vs)) (hz : vs.length < sizeLine)
    (k : ∀ T, H T = none → E.nx σ (upd (upd H T (.tup [x, y])) D (.lst (vs ++ [.ref T])))) : tDrop (tBM K "list" rAppend (tVar i) (tCons (tTup (tCons (tVar j) (tCons (tVar l) tNil))) tNil)) E σ H := by
  refine ⟨_, h1, .inl ⟨rfl, _, sql e⟩, _, h2, _, h3, by show 2 ≤ sizeLine; decide, fun T hT => ?_⟩
  refine ⟨D, vs, .ref T, rfl, rfl, ?_, hz, k T hT⟩
  rw [upd_ne (ne_of_none e hT)]
  exact e
def liftL (ps : List Pt) (n : Nat) : List (Int × Pt) := (List.range n).map fun i => (rdN (dr ps) i, dr ps i)
def spLifts (C : Addr) : Sp := fun vs H Q _ => ∃ (v : V) (ps : List Pt), vs = [v] ∧ IsF C H v ps ∧ ps.length ≤ 1000 ∧ (∀ i, i < ps.length → sd ps i ≠ (0, 0) ∧ Sm (2 ^ 29) (sd ps i)) ∧ ∀ H' p vs, Same H H' → H' p = some (.lst vs) → Paired (Two IsI IsPt H') vs (liftL ps ps.length) → Q (.ref p) H'
theorem scLiftsIn : FnScope ["fence", "found", "rounds", "side", "direction"] ["fence"] (defScope s_lifts_in) := ⟨rfl, rfl, rfl, by decide +kernel, rfl, by decide +kernel, by decide +kernel⟩
theorem dir_sm {s : Pt} (h : s ≠ (0, 0)) (sm : Sm (2 ^ 29) s) : Sm (2 ^ 30) (dirOf s) := by
  have g := gcd_pos h
  unfold dirOf Sm at *
  generalize (Int.gcd s.1 s.2 : Int) = g0 at g
  have b : ∀ x : Int, -(2 ^ 29) < x ∧ x < 2 ^ 29 → -(2 ^ 30) < x / g0 ∧ x / g0 < 2 ^ 30 := fun x hx => by
    constructor
    · have : -(2 ^ 29) ≤ x / g0 := by
        rw [Int.le_ediv_iff_mul_le g]
        have : (-(2 ^ 29) : Int) * g0 ≤ -(2 ^ 29) * 1 := Int.mul_le_mul_of_nonpos_left (by decide) (by omega)
        omega
      omega
    · have : x / g0 < 2 ^ 29 := by
        rw [Int.ediv_lt_iff_lt_mul g]
        have : (2 ^ 29 : Int) * 1 ≤ 2 ^ 29 * g0 := Int.mul_le_mul_of_nonneg_left (by omega) (by decide)
        omega
      omega
  exact ⟨b _ sm.1, b _ sm.2⟩
theorem c_lifts_in {C : Addr} (FC : HasF K mg C) (C_direction_in : Cal P w K mg base 2 "direction_in" spDir []) (C_past_east : Cal P w K mg base 3 "past_east" spPast []) (F : Has K mg "lifts_in" s_lifts_in ["fence"]) : Cal P w K mg base 4 "lifts_in" (spLifts C) [] := by
  refine F.cal scLiftsIn (fun vs H Q E h => ?_) (fun f cdv A outer s H vs Q E hr h => ?_)
  · obtain ⟨_, _, rfl, _⟩ := h
    rfl
  · obtain ⟨v, ps, rfl, hv, h1, sm, k⟩ := h
    refine ⟨_, (pss_cons (ps_par (i := 1) (j := 2) rfl scLiftsIn.nd rfl rfl (by decide) rfl rfl (pa_cons (pe_lst pa_nil) (pa_cons pe_int pa_nil)) (by rfl))
 (pss_cons (ps_for PassesOwn.never rfl (pi_tup (pe_fld (pv 0) rfl)) (pg_name (i := 3) scLiftsIn.nd rfl (Or.inl rfl))
 (pss_cons (ps_set (i := 4) scLiftsIn.nd rfl (Or.inl rfl) (pe_c C_direction_in hr (by decide) rfl (pa_cons (pv 3) pa_nil)))
 (pss_cons (ps_if (pt_cmpR (op_neD hr.units) (pv 1) (pe_lst pa_nil) (nomark _)) (pss_one (ps_set (i := 2) scLiftsIn.nd rfl (Or.inl rfl) (pe_op op_add (pv 2) (pe_c C_past_east hr (by decide) rfl (pa_cons (ixT (ixL (pv 1) (pe_un un_neg pe_int)) pe_int) (pa_cons (pv 4) pa_nil)))))) pss_nil)
 (pss_one (ps_expr (pe_bm PySem.F.plainAttrs_list PySem.F.slot_list_append PySem.F.type_list_append mt_append (pv 1) (pa_cons (pe_tup (pa_cons (pv 2) (pa_cons (pv 4) pa_nil))) pa_nil)))))))
 (pss_one (ps_ret (pv 1))))), ?_⟩
    obtain ⟨a, dx, c, t, us, ss, rfl, a1, a2, a3, a4, a5⟩ := hv.ex
    have hls : ss.length = ps.length := by rw [a5.length, sid_n]
    refine ⟨by decide, fun D hD => ⟨_, _, rfl, ?_⟩⟩
    have s1 := sameU (o := .lst []) (Same.refl H) hD
    refine ⟨_, rfl, a, C, dx, _, _, rfl, s1 _ _ a1, FC.ins.cl, FC.n3, rfl, t, rfl, ⟨_, sqt (s1 _ _ a4)⟩, ?_⟩
    refine for_it (walk_tup (xs := ss)) (fun i σ H' => Same H H' ∧ ∃ vs s3 d4, H' D = some (.lst vs) ∧ Paired (Two IsI IsPt H') vs (liftL ps i) ∧ σ = [some (.ref a), some (.ref D), some (.int (rdN (dr ps) (i - 1))), s3, d4]) ⟨s1, [], none, none, upd_same, .nil, rfl⟩ (fun i σ H' hi p => sqt (p.1 _ _ a4)) (fun i y σ H0 H' hi p Y => ?_) (fun σ H' p => ?_)
    · obtain ⟨rfl, ey⟩ := Y
      obtain ⟨s2, vs, s3, d4, eD, pr, rfl⟩ := p
      have hi2 : i < ps.length := by omega
      obtain ⟨p0, ep, rp⟩ := Paired.at (Paired.kt pt_kt (same_kt s2) a5) ey
      rw [sid_get hi2] at ep
      cases ep
      have hn := sm i hi2
      refine ⟨_, rfl, y, sd ps i, rfl, rp, hn.1, hn.2, fun T hT => ?_⟩
      have s4 := sameU (o := .tup [.int (dirOf (sd ps i)).1, .int (dirOf (sd ps i)).2]) (Same.refl H') hT
      have eT : (upd H' T (.tup [.int (dirOf (sd ps i)).1, .int (dirOf (sd ps i)).2])) T = some (.tup [.int (dirOf (sd ps i)).1, .int (dirOf (sd ps i)).2]) := upd_same
      have s5 : Same H (upd H' T (.tup [.int (dirOf (sd ps i)).1, .int (dirOf (sd ps i)).2])) := fun b u q => s4 _ _ (s2 _ _ q)
      have eD5 := s4 _ _ eD
      have pr5 : Paired (Two IsI IsPt (upd H' T (.tup [.int (dirOf (sd ps i)).1, .int (dirOf (sd ps i)).2]))) vs (liftL ps i) := Paired.kt (Two.kt isI_kt pt_kt) (same_kt s4) pr
      generalize upd H' T (.tup [.int (dirOf (sd ps i)).1, .int (dirOf (sd ps i)).2]) = H5 at eT s5 eD5 pr5 ⊢
      have hvl : vs.length = i := by rw [pr.length]; simp [liftL]
      have last : ∀ (H6 : Hp), Same H5 H6 → ∀ T2, H6 T2 = none → Same H (upd (upd H6 T2 (.tup [.int (rdN (dr ps) i), .ref T])) D (.lst (vs ++ [.ref T2]))) ∧ Paired (Two IsI IsPt (upd (upd H6 T2 (.tup [.int (rdN (dr ps) i), .ref T])) D (.lst (vs ++ [.ref T2])))) (vs ++ [.ref T2]) (liftL ps (i + 1)) := fun H6 s6 T2 hT2 => by
        have s7 := sameU (o := .tup [.int (rdN (dr ps) i), .ref T]) s6 hT2
        have eD7 := s7 _ _ eD5
        refine ⟨fun b u q => ?_, ?_⟩
        · rw [upd_ne (ne_of_none q hD)]
          exact s7 _ _ (s5 _ _ q)
        · have kt := kt_upd (o := .lst (vs ++ [.ref T2])) eD7
          have e2 : liftL ps (i + 1) = liftL ps i ++ [(rdN (dr ps) i, dr ps i)] := by
            unfold liftL
            rw [List.range_succ, List.map_append]
            rfl
          rw [e2]
          exact Paired.snoc (Paired.kt (Two.kt isI_kt pt_kt) (fun b xs q => kt _ _ (s7 _ _ q)) pr5) ⟨T2, _, _, rfl, kt _ _ upd_same, rfl, T, rfl, kt _ _ (s7 _ _ eT)⟩
      have hsz : vs.length < sizeLine := by rw [hvl]; exact Nat.lt_of_lt_of_le hi2 (Nat.le_trans h1 (by decide))
      refine ⟨_, rfl, by decide, fun L hL => ?_⟩
      have s6 := sameU (o := .lst []) (Same.refl H5) hL
      refine ⟨.list ((liftL ps i).map dIP), .list [], .lst (sql (s6 _ _ eD5)) (dp_ips (Paired.kt (Two.kt isI_kt pt_kt) (same_kt s6) pr5)), .lst (sql upd_same) .nil, shp_ips _, rfl, _, rfl, ?_⟩
      rw [eqv_nil]
      refine ite_t (fun hb => ?_) (fun hb => ?_)
      · have h0 : i ≠ 0 := fun z => by subst z; simp [liftL] at hb
        have el : (liftL ps i)[i - 1]? = some (rdN (dr ps) (i - 1), dr ps (i - 1)) := by
          unfold liftL
          rw [List.getElem?_map, List.getElem?_range (by omega)]
          rfl
        obtain ⟨z, ez, T3, x3, y3, rfl, hT3, hx3, hy3⟩ := Paired.at2 pr5 el
        have ea : atI vs (-1) = some (.ref T3) := by
          have := atI_prev (xs := vs) (i := 0) (by omega)
          rw [hvl] at this
          exact this.trans ez
        have er : rdN (dr ps) (i - 1) + pe (dr ps (i - 1)) (dr ps i) = rdN (dr ps) i := by
          obtain ⟨m, rfl⟩ : ∃ m, i = m + 1 := ⟨i - 1, by omega⟩
          rfl
        have hp1 := sm (i - 1) (by omega)
        refine ⟨_, rfl, _, rfl, _, rfl, D, vs, _, _, rfl, rfl, sql (s6 _ _ eD5), ea, T3, _, _, _, rfl, rfl, sqt (s6 _ _ hT3), rfl, _, rfl, y3, .ref T, dr ps (i - 1), dr ps i, rfl, hy3.same s6, ⟨T, rfl, s6 _ _ eT⟩, (dir_sm hp1.1 hp1.2).mono (by decide), (dir_sm hn.1 hn.2).mono (by decide), _, _, rfl, rfl, ?_⟩
        show gName 2 (V.int (rdN (dr ps) (i - 1) + pe (dr ps (i - 1)) (dr ps i))) _ _ _
        rw [er]
        refine app_pair (K := K) (D := D) (vs := vs) (x := .int (rdN (dr ps) i)) (y := .ref T) rfl rfl rfl (s6 _ _ eD5) hsz fun T2 hT2 => ?_
        obtain ⟨l1, l2⟩ := last _ s6 T2 hT2
        exact ⟨l1, _, _, _, upd_same, l2, rfl⟩
      · have h0 : i = 0 := by
          rcases Nat.eq_zero_or_pos i with z | z
          · exact z
          · obtain ⟨m, rfl⟩ : ∃ m, i = m + 1 := ⟨i - 1, by omega⟩
            simp [liftL, List.range_succ] at hb
        have er : rdN (dr ps) (i - 1) = rdN (dr ps) i := by subst h0; rfl
        rw [er]
        refine app_pair (K := K) (D := D) (vs := vs) (x := .int (rdN (dr ps) i)) (y := .ref T) rfl rfl rfl (s6 _ _ eD5) hsz fun T2 hT2 => ?_
        obtain ⟨l1, l2⟩ := last _ s6 T2 hT2
        exact ⟨l1, _, _, _, upd_same, l2, rfl⟩
    · obtain ⟨s2, vs, s3, d4, eD, pr, rfl⟩ := p
      rw [hls] at pr
      exact ⟨_, rfl, k _ D vs s2 eD pr⟩
end
end Bay
namespace Bay
open PySem PySem.Spec PyProof.Rows L2
open C8 (Cal pe_c Mak pe_mk)
/-! ## sum(range(..)) -/
section
variable {X : Cx} {e : Expr} {te : L2.St → Hp → (Int → Int → Hp → Prop) → Prop}
def tSumRg (te : L2.St → Hp → (Int → Int → Hp → Prop) → Prop) : TE := fun σ H Q => te σ H fun a b H1 => (-(2 ^ 62) ≤ a ∧ a < 2 ^ 62 ∧ -(2 ^ 62) ≤ b ∧ b < 2 ^ 62) ∧ Q (.int (preSum (fun i => a + (i : Nat) * 1) (b - a).toNat)) H1
theorem pe_sumRg {p pos : Pos} (hc : X.calm = true) (hg : Gl X "sum") (hm : X.mg "sum" = none) (he : PRg X e te) (na : starEach [e] X.env = (false, eval e X.env) :: starEach [] X.env := by rfl) : PE X (.Call (.Name "sum" p) [e] [] pos) (tSumRg te) := by
  refine ⟨fun pins s σ H Q I h => ?_⟩
  refine Call_ (ld_blt I hg hm PyProof.Rows.boot_sum (PyProof.Rows.callWith_builtin1 (args_cons (thn (he pins s σ H _ I h) fun x s1 ⟨r, a, b, t, u, v, H1, ex, hr, J, ok, q⟩ => args_nil ?_) na) na rfl))
  subst ex
  obtain ⟨b1, b2, b3, b4⟩ := ok
  refine call_sum_walkG (wpAny_pyIter_range hr (small_one b1 b2 b3 b4) ?_)
  have hpu : ∀ c o, s1.heap.get? c = some o → (s1.heap.push { cls := .type "range_iterator", data := .fields #[rawInt a, rawInt (Builtin.Range.rangeSize a b 1), rawInt 1] }).get? c = some o := fun c o z => Heap.get?_push_of_some _ z
  refine ⟨s1.heap.objs.size, [s1.heap.objs.size], [s1.heap.objs.size], (b - a).toNat, _, _, fun i => a + (i : Nat) * 1, rfl, Walks.range (A := X.A.in1) (show X.A.in1.handled = none from J.ok.hd hc) s1.heap.objs.size a 1 (b - a).toNat, ?_, fun c hcm => ?_, fun i w ⟨t, z⟩ => ⟨t, z⟩, fun h' tk t' keep => ?_⟩
  · have e1 : a + ((0 : Nat) : Int) * 1 = a := by simp
    have e2 : (((b - a).toNat : Nat) : Int) - ((0 : Nat) : Int) = Builtin.Range.rangeSize a b 1 := by rw [rangeSize_nat]; simp
    show IsRangeIter _ _ (a + ((0 : Nat) : Int) * 1) ((((b - a).toNat : Nat) : Int) - ((0 : Nat) : Int)) 1
    rw [e1, e2]
    exact Heap.get?_push_size _ rfl
  · rw [List.mem_singleton.mp hcm]
    show s1.heap.objs.size < (s1.heap.push _).objs.size
    rw [Heap.size_push]
    exact Nat.lt_succ_self _
  · refine ⟨.int (preSum (fun i => a + (i : Nat) * 1) (b - a).toNat), H1, J.kept (t' := tk) fun c o z => keep c o (fun w => ?_) (hpu c o z), ⟨t', rfl⟩, q⟩
    rw [List.mem_singleton] at w
    exact Nat.lt_irrefl _ (w ▸ Heap.lt_size z)
end
end Bay
namespace Bay
open PySem PySem.Spec PyProof.Rows L2
open C8 (Cal pe_c Mak pe_mk)
section
variable {P : Program} {w : World} {K : PySem.W.Frag} {mg : Str → Option Value} {base : Heap}
def rkL (D : List Pt) (ps : List Pt) : List Int := (List.range ps.length).map (rkN D ps)
def spRanks (C : Addr) : Sp := fun vs H Q _ => ∃ (v : V) (ps : List Pt), vs = [v] ∧ IsF C H v ps ∧ ps.length ≤ 1000 ∧ (∀ i, i < ps.length → sd ps i ≠ (0, 0) ∧ Sm (2 ^ 29) (sd ps i)) ∧
  ∀ H' T r D, Same H H' → H' T = some (.tup [.ref r, .int (D.length : Nat)]) → H' r = some (.lst ((rkL D ps).map V.int)) → D.Nodup → (∀ d, d ∈ D ↔ d ∈ (sid ps).map dirOf) → Q (.ref T) H'
theorem scRanksIn : FnScope ["fence", "lifts", "numbers", "_", "direction", "rounds"] ["fence"] (defScope s_ranks_in) := ⟨rfl, rfl, rfl, by decide +kernel, rfl, by decide +kernel, by decide +kernel⟩
theorem val_num {D : List Pt} (g : Pt → V) {d : Pt} (h : d ∈ D) : valV (D.map fun d => (keyL d, g d)) (keyL d) = some (g d) := by
  induction D with
  | nil => cases h
  | cons a t ih =>
    by_cases e : a = d
    · subst e
      exact valV_pos rfl
    · rw [List.map_cons, valV_neg (fun q => e (keyL_inj q))]
      exact ih ((List.mem_cons.mp h).resolve_left fun q => e q.symm)
theorem dirs_map (ps : List Pt) : (sid ps).map dirOf = (List.range ps.length).map (dr ps) := by
  refine List.ext_getElem (by simp [sid_n]) fun i h1 h2 => ?_
  simp only [List.length_map, sid_n, List.length_range] at h1 h2
  rw [List.getElem_map, List.getElem_map, List.getElem_range]
  unfold dr
  have e := sid_get h1
  rw [List.getElem?_eq_getElem (by rw [sid_n]; exact h1)] at e
  rw [Option.some.inj e]
theorem lift_dirs (ps : List Pt) : (liftL ps ps.length).map Prod.snd = (sid ps).map dirOf := by
  rw [dirs_map]
  unfold liftL
  rw [List.map_map]
  rfl
theorem c_ranks_in {C : Addr} (B : Bn mg) (C_lifts_in : Cal P w K mg base 4 "lifts_in" (spLifts C) []) (C_numbered : Cal P w K mg base 3 "numbered" spNum []) (F : Has K mg "ranks_in" s_ranks_in ["fence"]) : Cal P w K mg base 5 "ranks_in" (spRanks C) [] := by
  refine F.cal scRanksIn (fun vs H Q E h => ?_) (fun f cdv A outer s H vs Q E hr h => ?_)
  · obtain ⟨_, _, rfl, _⟩ := h
    rfl
  · obtain ⟨v, ps, rfl, hv, h1, sm, k⟩ := h
    have hu : ∀ n, n + 64 < cLine → n + 1 < cLine := fun n h => by omega
    refine ⟨_, (pss_cons (ps_set (i := 1) scRanksIn.nd rfl (Or.inl rfl) (pe_c C_lifts_in hr (by decide) rfl (pa_cons (pv 0) pa_nil)))
 (pss_cons (ps_set (i := 2) scRanksIn.nd rfl (Or.inr rfl) (pe_c C_numbered hr (by decide) rfl (pa_cons (pe_lc (own := [("_", 3), ("direction", 4)]) rfl scRanksIn.nd (pi_list (pv 1)) (blkOk_by (N := ["fence", "lifts", "numbers", "_", "direction", "rounds"]) (sc := defScope s_ranks_in) (by decide +kernel)) (fun _ _ _ _ _ => (tgk K 2 rfl (pgs_cons (pg_name (i := 3) scRanksIn.nd rfl (Or.inl rfl)) (pgs_cons (pg_name (i := 4) scRanksIn.nd rfl (Or.inl rfl)) pgs_nil)))) (fun _ _ _ _ _ => pts_nil) (fun _ _ _ _ _ => (pv 4))) pa_nil)))
 (pss_one (ps_ret (pe_tup (pa_cons (pe_lc (own := [("rounds", 5), ("direction", 4)]) rfl scRanksIn.nd (pi_list (pv 1)) (blkOk_by (N := ["fence", "lifts", "numbers", "_", "direction", "rounds"]) (sc := defScope s_ranks_in) (by decide +kernel)) (fun _ _ _ _ _ => (tgk K 2 rfl (pgs_cons (pg_name (i := 5) scRanksIn.nd rfl (Or.inl rfl)) (pgs_cons (pg_name (i := 4) scRanksIn.nd rfl (Or.inl rfl)) pgs_nil)))) (fun _ _ _ _ _ => pts_nil) (fun _ _ _ _ _ => (pe_op op_add (pe_op op_mul (pv 5) (pe_callB call_len_dT (by rfl) B.len (by decide +kernel) (pa_cons (pv 2) pa_nil))) (pe_dget (hu _ hr.units) (pv 2) (pv 4) (fun _ _ => rfl))))) (pa_cons (pe_callB call_len_dT (by rfl) B.len (by decide +kernel) (pa_cons (pv 2) pa_nil)) pa_nil))))))), ?_⟩
    refine ⟨_, rfl, v, ps, rfl, hv, h1, sm, fun H1 L ls s1 eL rL => ?_⟩
    have hll : ls.length = ps.length := by rw [rL.length]; simp [liftL]
    have hlt : (liftL ps ps.length).length = ls.length := rL.length.symm
    have hsz : ls.length ≤ sizeLine := by rw [hll]; exact Nat.le_trans h1 (by decide)
    have hdir : ∀ d ∈ (sid ps).map dirOf, Sm (2 ^ 30) d := fun d hd => by
      rw [dirs_map] at hd
      obtain ⟨i, hi, rfl⟩ := List.mem_map.mp hd
      have := sm i (List.mem_range.mp hi)
      exact dir_sm this.1 this.2
    refine ⟨_, rfl, L, rfl, ⟨_, sql eL⟩, fun D1 hD1 => ?_⟩
    refine lc_gen (walk_list (xs := ls)) (liftL ps ps.length) (fun _ => true) Prod.snd IsPt hlt hsz pt_kt hD1 (fun H s => sql (s _ _ eL)) (fun i e y H H' Ny Ns ee s Y hy _ => ?_) (fun us H2 s2 e2 p2 => ?_)
    · obtain ⟨rfl, ey⟩ := Y
      obtain ⟨y2, ey2, r⟩ := Paired.at2 rL ee
      rw [ey] at ey2
      cases ey2
      obtain ⟨T, u, z, rfl, hT, hu1, hz⟩ := r
      refine ⟨T, _, rfl, sqt (s _ _ hT), rfl, _, _, rfl, ?_⟩
      refine ⟨_, _, rfl, ?_⟩
      refine ⟨rfl, rfl, ?_⟩
      exact ⟨_, rfl, hy rfl _ _ (Same.refl _) (hz.same s)⟩
    rw [filter_yes, lift_dirs] at p2
    refine ⟨D1, us, (sid ps).map dirOf, rfl, e2, p2, by rw [List.length_map, sid_n]; exact h1, fun d hd => (hdir d hd).mono (by decide), fun H3 N D s3 e3 nD mD => ?_⟩
    have s4 : Same H1 H3 := fun b u q => s3 _ _ (s2 _ _ q)
    refine ⟨_, rfl, L, rfl, ⟨_, sql (s4 _ _ eL)⟩, fun R hR => ?_⟩
    refine lc_gen (walk_list (xs := ls)) (liftL ps ps.length) (fun _ => true) (fun q => q.1 * (D.length : Int) + num D q.2) IsI hlt hsz isI_kt hR (fun H s => sql (s _ _ (s4 _ _ eL))) (fun i e y H H' Ny Ns ee s Y hy _ => ?_) (fun zs H4 s5 e5 p5 => ?_)
    · obtain ⟨rfl, ey⟩ := Y
      obtain ⟨y2, ey2, r⟩ := Paired.at2 rL ee
      rw [ey] at ey2
      cases ey2
      obtain ⟨T, u, z, rfl, hT, hu1, ⟨Tz, rfl, hTz⟩⟩ := r
      cases hu1
      have s6 : Same H1 H' := fun b u q => s _ _ (s4 _ _ q)
      refine ⟨T, _, rfl, sqt (s6 _ _ hT), rfl, _, _, rfl, ?_⟩
      refine ⟨_, _, rfl, ?_⟩
      refine ⟨rfl, rfl, ?_⟩
      have hm : e.2 ∈ D := (mD _).mpr (by rw [← lift_dirs]; exact List.mem_map.mpr ⟨e, mem_at ee, rfl⟩)
      have lD : (D.length : Int) < 2 ^ 64 := by
        have := sub_len nD fun d hd => (mD d).mp hd
        rw [List.length_map, sid_n] at this
        omega
      have hlen : (numD D).length = D.length := by unfold numD; rw [List.length_map]
      refine ⟨_, rfl, _, rfl, N, numD D, rfl, s _ _ e3, _, _, rfl, rfl, .inr ?_, ?_⟩
      · rw [hlen]; omega
      refine ⟨_, rfl, _, rfl, N, .int (num D e.2), rfl, .inr ⟨numD D, keyL e.2, Tz, .inl (s _ _ e3), rfl, s6 _ _ hTz, (val_num (fun d => .int (num D d)) hm).symm⟩, _, _, rfl, rfl, hy rfl _ _ (Same.refl _) ?_⟩
      show V.int _ = V.int _
      rw [hlen]
    · rw [filter_yes] at p5
      refine ⟨_, rfl, N, numD D, rfl, s5 _ _ e3, ?_⟩
      have hlen : (numD D).length = D.length := by unfold numD; rw [List.length_map]
      refine ⟨by show 2 ≤ sizeLine; decide, fun T hT => ?_⟩
      rw [hlen]
      have s7 := sameU (o := .tup [.ref R, .int (D.length : Nat)]) s5 hT
      refine k _ T R D (fun b u q => s7 _ _ (s4 _ _ (s1 _ _ q))) upd_same ?_ nD mD
      rw [upd_ne (ne_of_none e5 hT), e5, ints_of p5]
      unfold rkL liftL rkN
      simp only [List.map_map]
      rfl
end
end Bay
namespace Bay
open PySem PySem.Spec PyProof.Rows L2
open C8 (Cal pe_c Mak pe_mk)
section
variable {P : Program} {w : World} {K : PySem.W.Frag} {mg : Str → Option Value} {base : Heap}
def rsI (rs : List Int) (i : Nat) : Int := rs.getD i 0
def spPlaces : Sp := fun vs H Q _ => ∃ (r : Addr) (rs : List Int) (m : Int), vs = [.ref r, .int m] ∧ H r = some (.lst (rs.map V.int)) ∧ 0 < rs.length ∧ rs.length ≤ 1000 ∧ 0 < m ∧ m < 2 ^ 30 ∧
  ∀ H' p less (z : Int), Same H H' → 0 ≤ z → z ≤ (rs.length : Int) * (rs.length : Int) → less = (((List.range rs.length).map (found rs.length m (rsI rs))).sum - z) / (rs.length : Int) → H' p = some (.lst (((List.range rs.length).map fun i => found rs.length m (rsI rs) i - less).map V.int)) → Q (.ref p) H'
theorem scPlacesIn : FnScope ["ranks", "many", "found", "at", "rank", "place", "other", "its", "rounds", "rest", "less"] ["ranks", "many"] (defScope s_places_in) := ⟨rfl, rfl, rfl, by decide +kernel, rfl, by decide +kernel, by decide +kernel⟩
theorem rsI_get {rs : List Int} {i : Nat} {z : V} (h : (rs.map V.int)[i]? = some z) : i < rs.length ∧ z = .int (rsI rs i) := by
  rw [List.getElem?_map] at h
  cases e : rs[i]? with
  | none => rw [e] at h; cases h
  | some n =>
    rw [e] at h
    cases h
    refine ⟨(List.getElem?_eq_some_iff.mp e).1, ?_⟩
    unfold rsI
    rw [List.getD_eq_getElem?_getD, e]
    rfl
theorem pre_bd : ∀ n : Nat, 0 ≤ preSum (fun i => (0 : Int) + (i : Nat) * 1) n ∧ preSum (fun i => (0 : Int) + (i : Nat) * 1) n ≤ (n : Int) * (n : Int)
  | 0 => ⟨Int.le_refl _, Int.le_refl _⟩
  | n + 1 => by
    obtain ⟨h1, h2⟩ := pre_bd n
    have e : preSum (fun i => (0 : Int) + (i : Nat) * 1) (n + 1) = preSum (fun i => (0 : Int) + (i : Nat) * 1) n + (0 + (n : Nat) * 1) := rfl
    rw [e]
    have e2 : ((n + 1 : Nat) : Int) * ((n + 1 : Nat) : Int) = (n : Int) * n + 2 * n + 1 := by push_cast; grind
    rw [e2]
    omega
theorem c_places_in (B : Bn mg) (F : Has K mg "places_in" s_places_in ["ranks", "many"]) : Cal P w K mg base 1 "places_in" spPlaces [] := by
  refine F.cal scPlacesIn (fun vs H Q E h => ?_) (fun f cdv A outer s H vs Q E hr h => ?_)
  · obtain ⟨_, _, _, rfl, _⟩ := h
    rfl
  · obtain ⟨r, rs, m, rfl, hl, h0, h1, m0, m1, k⟩ := h
    refine ⟨_, (pss_cons (ps_set (i := 2) scPlacesIn.nd rfl (Or.inl rfl) (pe_lst pa_nil))
 (pss_cons (ps_for PassesOwn.never rfl (pi_enumM false (by rfl) B.enumerate (pa_cons (pv 0) pa_nil)) (pg_tup rfl (pgs_cons (pg_name (i := 3) scPlacesIn.nd rfl (Or.inl rfl)) (pgs_cons (pg_name (i := 4) scPlacesIn.nd rfl (Or.inl rfl)) pgs_nil)))
 (pss_cons (ps_set (i := 5) scPlacesIn.nd rfl (Or.inl rfl) pe_int)
 (pss_cons (ps_for PassesOwn.never rfl (pi_enumM false (by rfl) B.enumerate (pa_cons (pv 0) pa_nil)) (pg_tup rfl (pgs_cons (pg_name (i := 6) scPlacesIn.nd rfl (Or.inl rfl)) (pgs_cons (pg_name (i := 7) scPlacesIn.nd rfl (Or.inl rfl)) pgs_nil)))
 (pss_cons (ps_asg (pe_callB call_divmod (by rfl) B.divmod (by decide +kernel) (pa_cons (pe_op op_sub (pv 4) (pv 7)) (pa_cons (pv 1) pa_nil))) (pg_tup rfl (pgs_cons (pg_name (i := 8) scPlacesIn.nd rfl (Or.inl rfl)) (pgs_cons (pg_name (i := 9) scPlacesIn.nd rfl (Or.inl rfl)) pgs_nil))))
 (pss_one (ps_set (i := 5) scPlacesIn.nd rfl (Or.inl rfl) (pe_op op_add (pe_op op_add (pv 5) (pv 8)) (pe_callTy call_int1 (by rfl) B.int (by decide +kernel) (pa_cons (pe_or (pe_cmpR op_gt (pv 9) pe_int (nomark _)) (pe_one (pe_cmpR op_lt (pe_op op_add (pv 6) (pe_op op_mul (pv 8) (pe_callB call_len_seq (by rfl) B.len (by decide +kernel) (pa_cons (pv 0) pa_nil)))) (pv 3) (nomark _)))) pa_nil)))))))
 (pss_one (ps_expr (pe_bm PySem.F.plainAttrs_list PySem.F.slot_list_append PySem.F.type_list_append mt_append (pv 2) (pa_cons (pv 5) pa_nil)))))))
 (pss_cons (ps_set (i := 10) scPlacesIn.nd rfl (Or.inr rfl) (pe_op op_fdiv (pe_op op_sub (pe_callB (cr_sum rfl) (by rfl) B.sum (by decide +kernel) (pa_cons (pv 2) pa_nil)) (pe_sumRg rfl (by rfl) B.sum (prg_1 (by rfl) B.range (pe_callB call_len_seq (by rfl) B.len (by decide +kernel) (pa_cons (pv 0) pa_nil))))) (pe_callB call_len_seq (by rfl) B.len (by decide +kernel) (pa_cons (pv 0) pa_nil))))
 (pss_one (ps_ret (pe_lc (own := [("place", 5)]) rfl scPlacesIn.nd (pi_list (pv 2)) (blkOk_by (N := ["ranks", "many", "found", "at", "rank", "place", "other", "its", "rounds", "rest", "less"]) (sc := defScope s_places_in) (by decide +kernel)) (fun _ _ _ _ _ => (pg_name (i := 5) scPlacesIn.nd rfl (Or.inl rfl))) (fun _ _ _ _ _ => pts_nil) (fun _ _ _ _ _ => (pe_op op_sub (pv 5) (pv 10))))))))), ?_⟩
    refine ⟨by decide, fun D hD => ?_⟩
    have s1 := sameU (o := .lst []) (Same.refl H) hD
    refine ⟨_, rfl, r, _, rfl, sql (s1 _ _ hl), ?_⟩
    have hlm : (rs.map V.int).length = rs.length := by rw [List.length_map]
    refine for_it (walk_enumM (b := false) (xs := rs.map V.int)) (fun i σ H' => Same H H' ∧ H' D = some (.lst (((List.range i).map fun i => found rs.length m (rsI rs) i).map V.int)) ∧ ∃ o3 o4 o5 o6 o7 o8 o9, σ = [some (.ref r), some (.int m), some (.ref D), o3, o4, o5, o6, o7, o8, o9, none]) ⟨s1, upd_same, _, _, _, _, _, _, _, rfl⟩ (fun i σ H' hi p => sql (p.1 _ _ hl)) (fun i y σ H0 H' hi p Y => ?_) (fun σ H' p => ?_)
    · obtain ⟨T, x, z, rfl, hT, rfl, ex, ez⟩ := Y
      cases ex
      obtain ⟨hi2, rfl⟩ := rsI_get ez
      obtain ⟨s2, eD, o3, o4, o5, o6, o7, o8, o9, rfl⟩ := p
      have s3 := sameU (o := .tup [.int (i : Nat), .int (rsI rs i)]) (Same.refl H0) hT
      have s4 : Same H _ := fun b u q => s3 b u (s2 b u q)
      have eD4 := s3 _ _ eD
      refine ⟨T, _, rfl, sqt upd_same, rfl, _, _, rfl, ?_⟩
      refine ⟨_, _, rfl, ?_⟩
      refine ⟨rfl, ?_⟩
      generalize upd H0 T (.tup [.int (i : Nat), .int (rsI rs i)]) = H4 at s4 eD4 ⊢
      refine ⟨_, rfl, r, _, rfl, sql (s4 _ _ hl), ?_⟩
      refine for_it (walk_enumM (b := false) (xs := rs.map V.int)) (fun j σ H' => Same H4 H' ∧ ∃ o6 o7 o8 o9, σ = [some (.ref r), some (.int m), some (.ref D), some (.int (i : Nat)), some (.int (rsI rs i)), some (.int (tsum (fun l => kk rs.length m (rsI rs) i l) (List.range j))), o6, o7, o8, o9, none]) ⟨Same.refl _, _, _, _, _, rfl⟩ (fun j σ H' hj p => sql (p.1 _ _ (s4 _ _ hl))) (fun j y σ H5 H' hj p Y => ?_) (fun σ H' p => ?_)
      · obtain ⟨T5, x, z, rfl, hT5, rfl, ex, ez⟩ := Y
        cases ex
        obtain ⟨hj2, rfl⟩ := rsI_get ez
        obtain ⟨s5, o6, o7, o8, o9, rfl⟩ := p
        have s6 := sameU (o := .tup [.int (j : Nat), .int (rsI rs j)]) s5 hT5
        refine ⟨T5, _, rfl, sqt upd_same, rfl, _, _, rfl, ?_⟩
        refine ⟨_, _, rfl, ?_⟩
        refine ⟨rfl, ?_⟩
        refine ⟨_, rfl, _, rfl, _, _, rfl, rfl, _, rfl, _, _, rfl, ⟨m0, by omega⟩, fun T6 hT6 => ?_⟩
        have s7 := sameU (o := .tup [.int ((rsI rs i - rsI rs j) / m), .int ((rsI rs i - rsI rs j) % m)]) s6 hT6
        refine ⟨T6, _, rfl, sqt upd_same, rfl, _, _, rfl, ?_⟩
        refine ⟨_, _, rfl, ?_⟩
        refine ⟨rfl, ?_⟩
        have fin : ∀ b : Bool, (decide (0 < (rsI rs i - rsI rs j) % m) || decide ((j : Int) + (rsI rs i - rsI rs j) / m * (rs.length : Int) < (i : Int))) = b → tsum (fun l => kk rs.length m (rsI rs) i l) (List.range j) + (rsI rs i - rsI rs j) / m + (if b = true then 1 else 0) = tsum (fun l => kk rs.length m (rsI rs) i l) (List.range (j + 1)) := by
          intro b hb
          rw [tsum_range_succ]
          unfold kk
          rw [hb]
          unfold u01
          cases b <;> simp <;> omega
        have hsl := s7 _ _ (s4 _ _ hl)
        have mul2 : ∀ x : Int, CMul x ((rs.map V.int).length : Nat) := fun x => .inr ⟨by omega, by omega⟩
        refine ⟨_, rfl, _, rfl, _, _, rfl, rfl, ?_⟩
        refine ⟨_, rfl, _, _, rfl, rfl, _, rfl, ite_t (fun e => ?_) (fun e => ?_)⟩
        · refine .inr ⟨_, rfl, _, _, rfl, rfl, ?_⟩
          show gName 5 (V.int (tsum (fun l => kk rs.length m (rsI rs) i l) (List.range j) + (rsI rs i - rsI rs j) / m + (if true = true then 1 else 0))) _ _ _
          rw [fin true (by rw [show decide (0 < (rsI rs i - rsI rs j) % m) = true from e]; rfl)]
          exact ⟨s7, _, _, _, _, rfl⟩
        · refine ⟨_, rfl, _, rfl, _, rfl, r, _, rfl, .inl (sql hsl), _, _, rfl, rfl, mul2 _, _, _, rfl, rfl, _, rfl, _, _, rfl, rfl, .inr ⟨_, rfl, _, _, rfl, rfl, ?_⟩⟩
          rw [hlm]
          show gName 5 (V.int (tsum (fun l => kk rs.length m (rsI rs) i l) (List.range j) + (rsI rs i - rsI rs j) / m + (if decide ((j : Int) + (rsI rs i - rsI rs j) / m * (rs.length : Int) < (i : Int)) = true then 1 else 0))) _ _ _
          rw [fin _ (by rw [show decide (0 < (rsI rs i - rsI rs j) % m) = false from e]; rfl)]
          exact ⟨s7, _, _, _, _, rfl⟩
      · obtain ⟨s5, o6, o7, o8, o9, rfl⟩ := p
        rw [hlm]
        have eD6 := s5 _ _ eD4
        refine ⟨_, rfl, .inl ⟨rfl, _, sql eD6⟩, _, rfl, D, _, _, rfl, rfl, eD6, ?_, ?_⟩
        · rw [List.length_map, List.length_map, List.length_range]
          exact Nat.lt_of_lt_of_le (Nat.lt_of_lt_of_le hi2 h1) (by decide)
        · refine ⟨fun b u q => ?_, ?_, _, _, _, _, _, _, _, rfl⟩
          · rw [upd_ne (ne_of_none q hD)]
            exact s5 _ _ (s4 b u q)
          · rw [upd_same, List.range_succ, List.map_append, List.map_append]
            rfl
    · obtain ⟨s2, eD, o3, o4, o5, o6, o7, o8, o9, rfl⟩ := p
      rw [hlm] at eD
      refine ⟨_, rfl, D, _, rfl, sql eD, ?_⟩
      refine ⟨_, rfl, r, _, rfl, .inl (sql (s2 _ _ hl)), _, rfl, ?_⟩
      refine ⟨⟨by decide, by decide, by omega, by omega⟩, ?_⟩
      have hz := pre_bd (((rs.map V.int).length : Int) - 0).toNat
      generalize preSum (fun i => 0 + (i : Nat) * 1) (((rs.map V.int).length : Int) - 0).toNat = z at hz ⊢
      have hn : (((rs.map V.int).length : Int) - 0).toNat = rs.length := by rw [hlm]; omega
      rw [hn] at hz
      refine ⟨_, _, rfl, rfl, _, rfl, r, _, rfl, .inl (sql (s2 _ _ hl)), _, _, rfl, rfl, ⟨by omega, by omega⟩, ?_⟩
      refine ⟨_, rfl, D, rfl, ⟨_, sql eD⟩, fun R hR => ?_⟩
      refine lc_gen (walk_list (xs := ((List.range rs.length).map fun i => found rs.length m (rsI rs) i).map V.int)) ((List.range rs.length).map fun i => found rs.length m (rsI rs) i) (fun _ => true) (fun p => p - (((List.range rs.length).map fun i => found rs.length m (rsI rs) i).sum - z) / ((rs.map V.int).length : Nat)) IsI (by simp) (by rw [List.length_map, List.length_map, List.length_range]; exact Nat.le_trans h1 (by decide)) isI_kt hR (fun H s => sql (s _ _ eD)) (fun i e y H0 H' Ny Ns ee s Y hy _ => ?_) (fun ys H2 s3 e3 p3 => ?_)
      · obtain ⟨rfl, ey⟩ := Y
        rw [List.getElem?_map, ee] at ey
        cases ey
        exact ⟨rfl, _, rfl, _, rfl, _, _, rfl, rfl, hy rfl _ _ (Same.refl _) rfl⟩
      · rw [filter_yes, List.map_map] at p3
        refine k H2 R ((((List.range rs.length).map fun i => found rs.length m (rsI rs) i).sum - z) / ((rs.map V.int).length : Nat)) z (fun b u q => s3 _ _ (s2 _ _ q)) hz.1 hz.2 (by rw [hlm]) ?_
        rw [e3, ints_of p3]
        rfl
end
end Bay
namespace Bay
open PySem PySem.Spec PyProof.Rows L2
open C8 (Cal pe_c Mak pe_mk)
structure SortOut (ps D : List Pt) (P : Nat → Int) (R : Nat → Pt) (less : Int) : Prop where
  nd : D.Nodup
  mem : ∀ d, d ∈ D ↔ d ∈ (sid ps).map dirOf
  hP : ∀ i, i < ps.length → P i = found ps.length (D.length : Int) (rkN D ps) i - less
  hR : ∀ i, i < ps.length → R ((P i % (ps.length : Int)).toNat) = sd ps i
  hl : ∃ z : Int, 0 ≤ z ∧ z ≤ (ps.length : Int) * (ps.length : Int) ∧ less = (((List.range ps.length).map (found ps.length (D.length : Int) (rkN D ps))).sum - z) / (ps.length : Int)
def startP (ps : List Pt) (P : Nat → Int) (n : Nat) : Pt :=
  ((ps.getD 0 (0, 0)).1 - tsum (fun i => P i / (ps.length : Int) * (sd ps i).1) (List.range n), (ps.getD 0 (0, 0)).2 - tsum (fun i => P i / (ps.length : Int) * (sd ps i).2) (List.range n))
/-- the spots are all taken, each by one -/
theorem spots {ps D : List Pt} (h0 : 0 < ps.length) (hD : 0 < D.length) {P : Nat → Int} {less : Int} (hP : ∀ i, i < ps.length → P i = found ps.length (D.length : Int) (rkN D ps) i - less) :
    ∃ ix : Nat → Nat, (∀ t, t < ps.length → ix t < ps.length ∧ (P (ix t) % (ps.length : Int)).toNat = t) ∧ ∀ i j, i < ps.length → j < ps.length → (P i % (ps.length : Int)).toNat = (P j % (ps.length : Int)).toNat → i = j := by
  have pl := found_pl (n := ps.length) (m := (D.length : Int)) (r := rkN D ps) (by omega) less
  obtain ⟨ix, sh, hx⟩ := pl.at_ h0
  refine ⟨fun t => ix t, fun t ht => ?_, fun i j hi hj e => ?_⟩
  · obtain ⟨h1, h2⟩ := hx t
    refine ⟨h1, ?_⟩
    have h2 : found ps.length (D.length : Int) (rkN D ps) (ix t) - less = t + sh t * (ps.length : Int) := h2
    rw [hP _ h1, h2, Int.add_mul_emod_self_right, Int.emod_eq_of_lt (by omega) (by omega)]
    omega
  · have hn : (0 : Int) < ps.length := by omega
    have e1 := Int.emod_nonneg (P i) (Int.ne_of_gt hn)
    have e2 := Int.emod_nonneg (P j) (Int.ne_of_gt hn)
    have e3 : P i % (ps.length : Int) = P j % (ps.length : Int) := by omega
    have d1 := Int.mul_ediv_add_emod (P i) (ps.length : Int)
    have d2 := Int.mul_ediv_add_emod (P j) (ps.length : Int)
    refine (pl.inj (a := -(P i / (ps.length : Int))) (b := -(P j / (ps.length : Int))) hi hj ?_).1
    show found ps.length (D.length : Int) (rkN D ps) i - less + _ = found ps.length (D.length : Int) (rkN D ps) j - less + _
    rw [← hP i hi, ← hP j hj, Int.neg_mul, Int.neg_mul, Int.mul_comm (P i / _), Int.mul_comm (P j / _)]
    omega
theorem found_congr {n : Nat} {m : Int} {r r' : Nat → Int} (h : ∀ i, i < n → r i = r' i) {i : Nat} (hi : i < n) : found n m r i = found n m r' i := by
  unfold found
  refine tsum_congr fun j hj => ?_
  unfold kk
  rw [h i hi, h j (List.mem_range.mp hj)]
section
variable {P : Program} {w : World} {K : PySem.W.Frag} {mg : Str → Option Value} {base : Heap}
def spSorted (C : Addr) : Sp := fun vs H Q _ => ∃ (v : V) (ps : List Pt), vs = [v] ∧ IsF C H v ps ∧ 0 < ps.length ∧ ps.length ≤ 1000 ∧ (∀ i, i < ps.length → sd ps i ≠ (0, 0) ∧ Sm (2 ^ 29) (sd ps i)) ∧
  ∀ H' T X tr rs D P R less, Same H H' → H' T = some (.tup [.ref X, .ref tr]) → IsPt H' (.ref X) (startP ps P ps.length) → H' tr = some (.tup rs) → Pts H' rs ((List.range ps.length).map R) → SortOut ps D P R less → Q (.ref T) H'
theorem scSortedIn : FnScope ["fence", "ranks", "many", "places", "x", "y", "row", "_", "place", "side", "times", "spot"] ["fence"] (defScope s_sorted_in) := ⟨rfl, rfl, rfl, by decide +kernel, rfl, by decide +kernel, by decide +kernel⟩
theorem c_sorted_in {C : Addr} (FC : HasF K mg C) (B : Bn mg) (C_ranks_in : Cal P w K mg base 5 "ranks_in" (spRanks C) []) (C_places_in : Cal P w K mg base 1 "places_in" spPlaces []) (F : Has K mg "sorted_in" s_sorted_in ["fence"]) : Cal P w K mg base 6 "sorted_in" (spSorted C) [] := by
  refine F.cal scSortedIn (fun vs H Q E h => ?_) (fun f cdv A outer s H vs Q E hr h => ?_)
  · obtain ⟨_, _, rfl, _⟩ := h
    rfl
  · obtain ⟨v, ps, rfl, hv, h0, h1, sm, k⟩ := h
    refine ⟨_, (pss_cons (ps_asg (pe_c C_ranks_in hr (by decide) rfl (pa_cons (pv 0) pa_nil)) (pg_tup rfl (pgs_cons (pg_name (i := 1) scSortedIn.nd rfl (Or.inl rfl)) (pgs_cons (pg_name (i := 2) scSortedIn.nd rfl (Or.inl rfl)) pgs_nil))))
 (pss_cons (ps_set (i := 3) scSortedIn.nd rfl (Or.inl rfl) (pe_c C_places_in hr (by decide) rfl (pa_cons (pv 1) (pa_cons (pv 2) pa_nil))))
 (pss_cons (ps_asg (ixT (pe_fld (pv 0) rfl) pe_int) (pg_tup rfl (pgs_cons (pg_name (i := 4) scSortedIn.nd rfl (Or.inl rfl)) (pgs_cons (pg_name (i := 5) scSortedIn.nd rfl (Or.inl rfl)) pgs_nil))))
 (pss_cons (ps_setLc (i := 6) (own := [("_", 7)]) rfl scSortedIn.nd rfl rfl (sw_true rfl rfl rfl (by decide +kernel)) (pi_list (pv 3)) (blkOk_by (N := ["fence", "ranks", "many", "places", "x", "y", "row", "_", "place", "side", "times", "spot"]) (sc := defScope s_sorted_in) (by decide +kernel)) (fun _ _ _ _ _ => (pg_name (i := 7) scSortedIn.nd rfl (Or.inl rfl))) (fun _ _ _ _ _ => pts_nil) (fun _ _ _ _ _ => pe_non))
 (pss_cons (ps_for PassesOwn.never rfl (pi_zipM false true (by rfl) B.zip (pa_cons (pv 3) (pa_cons (pe_fld (pv 0) rfl) pa_nil))) (pg_tup rfl (pgs_cons (pg_name (i := 8) scSortedIn.nd rfl (Or.inl rfl)) (pgs_cons (pg_name (i := 9) scSortedIn.nd rfl (Or.inl rfl)) pgs_nil)))
 (pss_cons (ps_asg (pe_callB call_divmod (by rfl) B.divmod (by decide +kernel) (pa_cons (pv 8) (pa_cons (pe_callB call_len_seq (by rfl) B.len (by decide +kernel) (pa_cons (pv 3) pa_nil)) pa_nil))) (pg_tup rfl (pgs_cons (pg_name (i := 10) scSortedIn.nd rfl (Or.inl rfl)) (pgs_cons (pg_name (i := 11) scSortedIn.nd rfl (Or.inl rfl)) pgs_nil))))
 (pss_one (ps_asg (pe_tup (pa_cons (pe_op op_sub (pv 4) (pe_op op_mul (pv 10) (ixT (pv 9) pe_int))) (pa_cons (pe_op op_sub (pv 5) (pe_op op_mul (pv 10) (ixT (pv 9) pe_int))) (pa_cons (pv 9) pa_nil)))) (pg_tup rfl (pgs_cons (pg_name (i := 4) scSortedIn.nd rfl (Or.inl rfl)) (pgs_cons (pg_name (i := 5) scSortedIn.nd rfl (Or.inl rfl)) (pgs_cons (pg_sub (pv 6) (pv 11) set_list (fun _ => rfl)) pgs_nil))))))))
 (pss_one (ps_ret (pe_tup (pa_cons (pe_tup (pa_cons (pv 4) (pa_cons (pv 5) pa_nil))) (pa_cons (pe_callTy call_tuple_of (by rfl) B.tuple (by decide +kernel) (pa_cons (pv 6) pa_nil)) pa_nil)))))))))), ?_⟩
    obtain ⟨a, dx, c, t, us, ss, rfl, a1, a2, a3, a4, a5⟩ := hv.ex
    have hls : ss.length = ps.length := by rw [a5.length, sid_n]
    refine ⟨_, rfl, .ref a, ps, rfl, hv, h1, sm, fun H1 T1 r D s1 eT er nD mD => ?_⟩
    refine ⟨T1, _, rfl, sqt eT, rfl, _, _, rfl, ?_⟩
    refine ⟨_, _, rfl, ?_⟩
    refine ⟨rfl, ?_⟩
    have hrk : (rkL D ps).length = ps.length := by simp [rkL]
    have hD1 : D.length ≤ ps.length := by
      have := sub_len nD fun d hd => (mD d).mp hd
      rwa [List.length_map, sid_n] at this
    have hD0 : 0 < D.length := by
      have : dr ps 0 ∈ D := (mD _).mpr (by rw [dirs_map]; exact List.mem_map.mpr ⟨0, List.mem_range.mpr h0, rfl⟩)
      exact List.length_pos_of_mem this
    refine ⟨_, rfl, _, rfl, r, rkL D ps, (D.length : Nat), rfl, er, by omega, by omega, by omega, by omega, fun H2 pl less zz s2 zz0 zz1 eless epl => ?_⟩
    rw [hrk] at epl zz1 eless
    have hP : ∀ i, i < ps.length → found ps.length (D.length : Nat) (rsI (rkL D ps)) i - less = found ps.length (D.length : Int) (rkN D ps) i - less := fun i hi => by
      rw [found_congr (fun j hj => ?_) hi]
      unfold rsI rkL
      rw [List.getD_eq_getElem?_getD, List.getElem?_map, List.getElem?_range hj]
      rfl
    have eless : less = (((List.range ps.length).map (found ps.length (D.length : Int) (rkN D ps))).sum - zz) / (ps.length : Int) := by
      rw [eless]
      congr 3
      refine List.map_congr_left fun i hi => ?_
      have := hP i (List.mem_range.mp hi)
      omega
    generalize hPP : (fun i => found ps.length ((D.length : Nat) : Int) (rsI (rkL D ps)) i - less) = Pl0 at epl
    have hP : ∀ i, i < ps.length → Pl0 i = found ps.length (D.length : Int) (rkN D ps) i - less := fun i hi => by rw [← hPP]; exact hP i hi
    obtain ⟨ix, hix, hinj⟩ := spots h0 hD0 hP
    have s3 : Same H H2 := fun b u q => s2 _ _ (s1 _ _ q)
    obtain ⟨z, hz⟩ : ∃ z, ps[0]? = some z := ⟨ps[0], by simp⟩
    obtain ⟨u0, hu0, Tz, rfl, eTz⟩ := Paired.at2 a3 hz
    have hz2 : ps.getD 0 (0, 0) = z := by rw [List.getD_eq_getElem?_getD, hz]; rfl
    refine ⟨_, rfl, a, C, dx, _, _, rfl, s3 _ _ a1, FC.ins.cl, FC.n1, rfl, c, us, _, .ref Tz, rfl, rfl, (a2.same s3).sq, atI_nat hu0, ?_⟩
    refine ⟨Tz, _, rfl, sqt (s3 _ _ eTz), rfl, _, _, rfl, ?_⟩
    refine ⟨_, _, rfl, ?_⟩
    refine ⟨rfl, ?_⟩
    have hpl : (((List.range ps.length).map Pl0).map V.int).length = ps.length := by simp
    refine ⟨_, rfl, pl, rfl, ⟨_, sql epl⟩, fun Rw hRw => ?_⟩
    refine lc_gen (walk_list (xs := ((List.range ps.length).map Pl0).map V.int)) (List.range ps.length) (fun _ => true) (fun _ => ()) (fun _ v _ => v = V.non) (by simp) (by rw [hpl]; exact Nat.le_trans h1 (by decide)) (fun _ _ _ _ _ h => h) hRw (fun H s => sql (s _ _ epl)) (fun i e y H H' Ny Ns ee s Y hy _ => ?_) (fun row0 H3 s4 e4 p4 => ?_)
    · obtain ⟨rfl, ey⟩ := Y
      exact ⟨rfl, hy rfl _ _ (Same.refl _) rfl⟩
    have hr0 : row0.length = ps.length := by
      have := p4.length
      rw [filter_yes] at this
      simpa using this
    have s5 : Same H H3 := fun b u q => s4 _ _ (s3 _ _ q)
    have epl3 := s4 _ _ epl
    have hRwH : H2 Rw = none := hRw
    refine ⟨_, rfl, _, rfl, a, C, dx, _, _, rfl, s5 _ _ a1, FC.ins.cl, FC.n3, rfl, pl, t, _, ss, rfl, sql epl3, sqt (s5 _ _ a4), ?_⟩
    refine for_it (walk_zipM (b1 := false) (b2 := true) (xs := ((List.range ps.length).map Pl0).map V.int) (ys := ss) (by rw [hpl, hls])) (fun j σ H' => Same H2 H' ∧ (∃ row, H' Rw = some (.lst row) ∧ row.length = ps.length ∧ ∀ i, i < j → row[(Pl0 i % (ps.length : Int)).toNat]? = ss[i]?) ∧ ∃ o8 o9 o10 o11, σ = [some (.ref a), some (.ref r), some (.int (D.length : Nat)), some (.ref pl), some (.int (startP ps Pl0 j).1), some (.int (startP ps Pl0 j).2), some (.ref Rw), none, o8, o9, o10, o11]) ⟨s4, ⟨row0, e4, hr0, fun i hi => absurd hi (Nat.not_lt_zero _)⟩, none, none, none, none, ?_⟩ (fun i σ H' hi p => ⟨sql (p.1 _ _ epl), sqt (p.1 _ _ (s3 _ _ a4))⟩) (fun j y σ H0 H' hj p Y => ?_) (fun σ H' p => ?_)
    · unfold startP
      rw [hz2]
      show _ = [_, _, _, _, some (V.int (z.1 - 0)), some (V.int (z.2 - 0)), _, _, _, _, _, _]
      rw [Int.sub_zero, Int.sub_zero]
      rfl
    · rw [hpl] at hj
      obtain ⟨T, x, z', rfl, hT, rfl, ex, ez⟩ := Y
      obtain ⟨s6, ⟨row, eR, lr, hrow⟩, o8, o9, o10, o11, rfl⟩ := p
      have ex : (((List.range ps.length).map Pl0).map V.int)[j]? = some x := ex
      have ez : ss[j]? = some z' := ez
      have ex2 : x = .int (Pl0 j) := by
        rw [List.getElem?_map, List.getElem?_map, List.getElem?_range hj] at ex
        exact (Option.some.inj ex).symm
      subst ex2
      obtain ⟨sd0, esd, rp⟩ := Paired.at a5 ez
      rw [sid_get hj] at esd
      cases esd
      have smj := (sm j hj).2
      have sF : Same H H0 := fun b u q => s6 _ _ (s3 _ _ q)
      have s7 := sameU (o := .tup [.int (Pl0 j), z']) (Same.refl H0) hT
      refine ⟨T, _, rfl, sqt upd_same, rfl, _, _, rfl, ?_⟩
      refine ⟨_, _, rfl, ?_⟩
      refine ⟨rfl, ?_⟩
      refine ⟨_, rfl, _, rfl, pl, _, rfl, .inl (sql (s7 _ _ (s6 _ _ epl))), _, _, rfl, ⟨by rw [hpl]; omega, by rw [hpl]; omega⟩, fun T6 hT6 => ?_⟩
      rw [hpl]
      have s8 := sameU (o := .tup [.int (Pl0 j / (ps.length : Nat)), .int (Pl0 j % (ps.length : Nat))]) s7 hT6
      refine ⟨T6, _, rfl, sqt upd_same, rfl, _, _, rfl, ?_⟩
      refine ⟨_, _, rfl, ?_⟩
      refine ⟨rfl, ?_⟩
      have eR8 := s8 _ _ eR
      have rp8 := (rp.same sF).same s8
      generalize upd (upd H0 T (.tup [.int (Pl0 j), z'])) T6 (.tup [.int (Pl0 j / (ps.length : Nat)), .int (Pl0 j % (ps.length : Nat))]) = H8 at s8 eR8 rp8 ⊢
      have cm1 : ∀ x : Int, CMul x (sd ps j).1 := fun x => .inr ⟨by have := smj.1; omega, by have := smj.1; omega⟩
      have cm2 : ∀ x : Int, CMul x (sd ps j).2 := fun x => .inr ⟨by have := smj.2; omega, by have := smj.2; omega⟩
      refine ⟨_, rfl, _, rfl, _, rfl, rp8.i0 ⟨_, _, rfl, rfl, cm1 _, _, _, rfl, rfl, ?_⟩⟩
      refine ⟨_, rfl, _, rfl, _, rfl, rp8.i1 ⟨_, _, rfl, rfl, cm2 _, _, _, rfl, rfl, ?_⟩⟩
      refine ⟨_, rfl, by show 3 ≤ sizeLine; decide, fun T7 hT7 => ?_⟩
      have hn : (0 : Int) < ps.length := by omega
      have m1 := Int.emod_nonneg (Pl0 j) (Int.ne_of_gt hn)
      have m2 := Int.emod_lt_of_pos (Pl0 j) hn
      have hix2 : ixN row.length (Pl0 j % (ps.length : Int)) = some (Pl0 j % (ps.length : Int)).toNat := by
        unfold ixN
        rw [if_pos m1, lr, if_pos (by omega)]
      refine ⟨T7, _, rfl, sqt upd_same, rfl, _, _, rfl, ?_⟩
      refine ⟨_, _, rfl, ?_⟩
      refine ⟨_, _, rfl, ?_⟩
      refine ⟨_, rfl, _, rfl, Rw, row, _, _, rfl, rfl, ?_, hix2, rfl, ?_⟩
      · rw [upd_ne (ne_of_none eR8 hT7)]
        exact eR8
      · refine ⟨fun b u q => ?_, ⟨_, upd_same, by rw [List.length_set, lr], fun i hi => ?_⟩, some (.int (Pl0 j)), some z', some (.int (Pl0 j / (ps.length : Int))), some (.int (Pl0 j % (ps.length : Int))), ?_⟩
        · rw [upd_ne (ne_of_none q hRwH)]
          have q2 := s8 _ _ (s6 _ _ q)
          rw [upd_ne (ne_of_none q2 hT7)]
          exact q2
        · by_cases e : i = j
          · subst e
            rw [List.getElem?_set_self (by omega), ez]
          · have hi2 : i < ps.length := by omega
            rw [List.getElem?_set_ne (fun q => e (hinj i j hi2 hj q.symm))]
            exact hrow i (by omega)
        · have e1 : (startP ps Pl0 (j + 1)).1 = (startP ps Pl0 j).1 - Pl0 j / (ps.length : Int) * (sd ps j).1 := by
            unfold startP
            simp only [tsum_range_succ]
            omega
          have e2 : (startP ps Pl0 (j + 1)).2 = (startP ps Pl0 j).2 - Pl0 j / (ps.length : Int) * (sd ps j).2 := by
            unfold startP
            simp only [tsum_range_succ]
            omega
          rw [e1, e2]
          rfl
    · obtain ⟨s6, ⟨row, eR, lr, hrow⟩, o8, o9, o10, o11, rfl⟩ := p
      rw [hpl] at hrow
      simp only [hpl]
      refine ⟨_, rfl, _, rfl, by show 2 ≤ sizeLine; decide, fun X hX => ?_⟩
      have s7 := sameU (o := .tup [.int (startP ps Pl0 ps.length).1, .int (startP ps Pl0 ps.length).2]) (Same.refl H') hX
      refine ⟨_, rfl, Rw, row, rfl, .inl ⟨sql (s7 _ _ eR), fun tr htr => ?_⟩⟩
      have s8 := sameU (o := .tup row) s7 htr
      refine ⟨by show 2 ≤ sizeLine; decide, fun T hT => ?_⟩
      have s9 := sameU (o := .tup [.ref X, .ref tr]) s8 hT
      have s10 := sameU (o := .tup [.ref X, .ref tr]) (sameU (o := .tup row) (Same.refl _) htr) hT
      have sH : Same H _ := fun b u q => s9 _ _ (s6 _ _ (s3 _ _ q))
      refine k _ T X tr row D Pl0 (fun t => sd ps (ix t)) less sH upd_same ⟨X, rfl, s10 _ _ upd_same⟩ ?_ ?_ ⟨nD, mD, hP, fun i hi => ?_, zz, zz0, zz1, eless⟩
      · rw [upd_ne (ne_of_none upd_same hT)]
        exact upd_same
      · refine paired_of (by simp [lr]) fun t x p ex ep => ?_
        have ht : t < ps.length := by have := (List.getElem?_eq_some_iff.mp ex).1; omega
        rw [List.getElem?_map, List.getElem?_range ht] at ep
        cases ep
        obtain ⟨b1, b2⟩ := hix t ht
        have := hrow (ix t) b1
        rw [b2, ex] at this
        obtain ⟨q, eq, rq⟩ := Paired.at a5 this.symm
        rw [sid_get b1] at eq
        cases eq
        exact rq.same sH
      · have hn : (0 : Int) < ps.length := by omega
        have m1 := Int.emod_nonneg (Pl0 i) (Int.ne_of_gt hn)
        have m2 := Int.emod_lt_of_pos (Pl0 i) hn
        obtain ⟨b1, b2⟩ := hix _ (show (Pl0 i % (ps.length : Int)).toNat < ps.length by omega)
        show sd ps (ix _) = _
        rw [hinj _ i b1 hi b2]
end
end Bay
namespace Bay
open PySem PySem.Spec PyProof.Rows L2
open C8 (Cal pe_c Mak pe_mk)
/-! ## the least of some points, and its place -/
theorem dPt_inj {p q : Pt} (h : dPt p = dPt q) : p = q := by
  unfold dPt at h
  simp only [PyData.tuple.injEq, List.cons.injEq, PyData.int.injEq, and_true] at h
  exact Prod.ext h.1 h.2
theorem lt_pt (p q : Pt) : PySem.W.dataLt (dPt p) (dPt q) = decide (p.1 < q.1 ∨ (p.1 = q.1 ∧ p.2 < q.2)) := by
  unfold dPt
  rw [PySem.W.dataLt_tuple]
  by_cases e : p.1 = q.1
  · rw [PySem.W.dataLt_all_yes rfl (by show (p.1 == q.1) = true; simp [e])]
    by_cases e2 : p.2 = q.2
    · rw [PySem.W.dataLt_all_yes rfl (by show (p.2 == q.2) = true; simp [e2])]
      have : ¬ (p.1 < q.1 ∨ p.1 = q.1 ∧ p.2 < q.2) := by omega
      rw [decide_eq_false this]
      rfl
    · rw [PySem.W.dataLt_all_no rfl (by show (p.2 == q.2) = false; simp [e2]), PySem.W.dataLt_int]
      congr 1
      apply propext
      omega
  · rw [PySem.W.dataLt_all_no rfl (by show (p.1 == q.1) = false; simp [e]), PySem.W.dataLt_int]
    congr 1
    apply propext
    omega
theorem minD_pt : ∀ (qs : List Pt) (p : Pt), ∃ m, PySem.W.minD (dPt p) (qs.map dPt) = dPt m ∧ m ∈ p :: qs ∧ ∀ q ∈ p :: qs, lexLe m q
  | [], p => ⟨p, rfl, List.mem_cons_self .., fun q hq => by
    rw [List.mem_singleton.mp hq]
    unfold lexLe
    omega⟩
  | a :: t, p => by
    have step : PySem.W.minD (dPt p) ((a :: t).map dPt) = PySem.W.minD (if PySem.W.dataLt (dPt a) (dPt p) then dPt a else dPt p) (t.map dPt) := rfl
    rw [step, lt_pt]
    by_cases c : a.1 < p.1 ∨ (a.1 = p.1 ∧ a.2 < p.2)
    · rw [if_pos (decide_eq_true c)]
      obtain ⟨m, h1, h2, h3⟩ := minD_pt t a
      refine ⟨m, h1, List.mem_cons_of_mem _ h2, fun q hq => ?_⟩
      rcases List.mem_cons.mp hq with e | hq
      · subst e
        have := h3 a (List.mem_cons_self ..)
        unfold lexLe at *
        omega
      · exact h3 q hq
    · rw [if_neg (by simpa using c)]
      obtain ⟨m, h1, h2, h3⟩ := minD_pt t p
      refine ⟨m, h1, ?_, fun q hq => ?_⟩
      · rcases List.mem_cons.mp h2 with e | h2
        · exact e ▸ List.mem_cons_self ..
        · exact List.mem_cons_of_mem _ (List.mem_cons_of_mem _ h2)
      · rcases List.mem_cons.mp hq with e | hq
        · subst e
          exact h3 q (List.mem_cons_self ..)
        · rcases List.mem_cons.mp hq with e | hq
          · subst e
            have := h3 p (List.mem_cons_self ..)
            unfold lexLe at *
            omega
          · exact h3 q (List.mem_cons_of_mem _ hq)
theorem dp_pts {K : PySem.W.Frag} {H : Hp} : ∀ {us : List V} {ps : List Pt}, Pts H us ps → DpAll K H us (ps.map dPt)
  | _, _, .nil => .nil
  | _, _, .cons r t => .cons (dp_pt r) (dp_pts t)
theorem alike_pts (ps : List Pt) : PySem.W.AlikeAll (ps.map dPt) := by
  refine ⟨fun x hx y hy => ?_, fun x hx => ?_⟩
  · obtain ⟨p, _, rfl⟩ := List.mem_map.mp hx
    obtain ⟨q, _, rfl⟩ := List.mem_map.mp hy
    rfl
  · obtain ⟨p, _, rfl⟩ := List.mem_map.mp hx
    exact fun h => nomatch h
theorem depth_pts (ps : List Pt) : PyData.depthAll (ps.map dPt) ≤ 1 := (shp_all (n := 1) fun d hd => by
  obtain ⟨p, _, rfl⟩ := List.mem_map.mp hd
  exact ⟨rfl, Nat.le_refl _⟩).2
def rMinPt (b : Bool) (K : PySem.W.Frag) : List V → Hp → VK → Prop := fun vs H Q => ∃ (a : Addr) (us : List V) (ps : List Pt), vs = [.ref a] ∧ Sq b K H a us ∧ Pts H us ps ∧ 0 < ps.length ∧ ∀ v p, p ∈ ps → (∀ q ∈ ps, lexLe p q) → IsPt H v p → Q v H
theorem cr_minPt {X : Cx} (b : Bool) (K : PySem.W.Frag) (hK : X.K = K) (hc : X.calm = true) (hu : X.A.units + 64 < cLine) : CallR X (.builtin "min") (rMinPt b K) := by
  subst hK
  intro pins s σ H vs ws Q I r h
  obtain ⟨a, us, ps, rfl, hq, hp, h0, q⟩ := h
  rw [Vals.ref1 r]
  cases ps with
  | nil => cases h0
  | cons p0 pt =>
    obtain ⟨m, m1, m2, m3⟩ := minD_pt pt p0
    have room : X.A.units + 1 + PyData.depthAll (dPt p0 :: pt.map dPt) < cLine := by
      have := depth_pts (p0 :: pt)
      rw [List.map_cons] at this
      omega
    have fin : ∀ (its : List Value), Vals us its → ∀ (i : Nat) (v : Value) (h' : Heap) (tk : Nat) (bs : List Addr), its.toArray[i]? = some v → Reads h' v (PySem.W.minD (dPt p0) (pt.map dPt)) bs → (∀ b o, s.heap.get? b = some o → h'.get? b = some o) → EP X pins σ Q v { s with heap := h', toks := tk } := fun its rv i v h' tk bs hv hr hk => by
      have hv : its[i]? = some v := by simpa using hv
      obtain ⟨x, hx, rx⟩ := Paired.at2 rv hv
      obtain ⟨p, ep, rp⟩ := Paired.at hp hx
      have J : Inv X pins σ H { s with heap := h', toks := tk } := I.kept hk
      obtain ⟨cs, r2⟩ := Dp.reads J (dPt p) x v (dp_pt rp) rx
      rw [m1] at hr
      have e := PySem.W.alike_unique (dPt m) (dPt p) v bs cs rfl hr r2
      have e := dPt_inj e
      subst e
      exact ⟨x, H, J, rx, q x m m2 m3 rp⟩
    cases b
    · obtain ⟨its, rv, pl, _⟩ := I.list hq
      obtain ⟨as, hr⟩ := Dp.readsAll I ((p0 :: pt).map dPt) us its (dp_pts hp) rv
      exact PySem.W.min_list_data (I.ok.hd hc) pl.isList (by simpa using hr) (alike_pts (p0 :: pt)) room (fin its rv)
    · obtain ⟨its, rv, pl, _⟩ := I.tuple hq
      obtain ⟨as, hr⟩ := Dp.readsAll I ((p0 :: pt).map dPt) us its (dp_pts hp) rv
      exact PySem.W.min_tuple_data (I.ok.hd hc) (show s.heap.IsTuple a its.toArray from pl) (by simpa using hr) (alike_pts (p0 :: pt)) room (fin its rv)
end Bay
namespace Bay
open PySem PySem.Spec PyProof.Rows L2
open C8 (Cal pe_c Mak pe_mk)
theorem idx_at {α : Type} [DecidableEq α] {p : α} {ps : List α} (h : p ∈ ps) : ps[ps.idxOf p]? = some p := by
  have hix : ps.idxOf p < ps.length := List.idxOf_lt_length_iff.mpr h
  rw [List.getElem?_eq_getElem hix, List.getElem_idxOf hix]
theorem eqv_pt (p q : Pt) : PyData.eqv (dPt p) (dPt q) = decide (p = q) := by
  unfold dPt
  show (p.1 == q.1 && (p.2 == q.2 && true)) = _
  by_cases e : p = q
  · subst e
    simp
  · have : ¬ (p.1 = q.1 ∧ p.2 = q.2) := fun h => e (Prod.ext h.1 h.2)
    rw [decide_eq_false e]
    by_cases c : p.1 = q.1
    · have c2 : ¬ p.2 = q.2 := fun h => this ⟨c, h⟩
      simp [c2]
    · simp [c]
def tTupIx (to : TE) (t : TA) : TE := fun σ H Q => to σ H fun x H1 => ∃ (a : Addr) (us : List V) (ps : List Pt), x = .ref a ∧ FT H1 a us ∧ t σ H1 fun xs H2 => ∃ (v : V) (p : Pt), xs = [v] ∧ FT H2 a us ∧ Pts H2 us ps ∧ IsPt H2 v p ∧ p ∈ ps ∧ ∀ j : Nat, ps[j]? = some p → Q (.int j) H2
theorem pe_tupIndex {X : Cx} {o e : Expr} {to : TE} {t : TA} {apos cpos : Pos} (hu : X.A.units + 64 < cLine) (ho : PE X o to) (ha : PA X [e] t) (hbase : attributeBase o "index" X.env (eval o X.env) = eval o X.env := by rfl)
    (hfew : ((backTo cpos (starEach [e] X.env)).all (fun x => !x.1) && (backToKw cpos (keywordEach [] X.env)).all (fun x => x.1.isSome) && decide (([e] : List Expr).length + ([] : List Keyword).length + (if ([] : List Keyword).isEmpty then 0 else 1) < 30)) = true := by rfl)
    (hline : (apos.endLine == cpos.line) = true := by rfl) (hs : starEach [e] X.env = (false, eval e X.env) :: starEach [] X.env := by rfl) : PE X (.Call (.Attribute o "index" apos) [e] [] cpos) (tTupIx to t) := by
  refine ⟨fun pins s σ H Q I h => ?_⟩
  refine wpAny_Call_method_late hbase hfew hline rfl (thn (ho.run pins s σ H _ I h) fun v s1 ⟨x, H1, I1, r1, a, us, ps, ex, ft, q1⟩ => ?_)
  subst ex
  cases (show v = Value.ref a from r1)
  obtain ⟨ob, hob, hd, hc⟩ := ft
  obtain ⟨hg, _⟩ := I1.hok a _ hob
  refine ⟨"tuple", "tuple.index", PySem.F.plainAttrs_tuple, PySem.F.slot_tuple_index, PySem.F.type_tuple_index, ⟨ob, hg, hc⟩, fun b eb => ?_, ?_⟩
  · cases eb
    exact ⟨ob, hg, hd⟩
  have hA := ha.run cpos pins s1 σ H1 _ I1 q1
  rw [hs] at hA ⊢
  refine Calls.callWith_builtin rfl (Calls.evalArgs_plain (thn hA fun ws s2 ⟨vs, H2, I2, r2, v, p, ev, ft2, hp, hv, hm, q⟩ => ?_))
  subst ev
  obtain ⟨w1, rfl, rw1⟩ := vals1 r2
  obtain ⟨its, rv, pl, _⟩ := I2.tuple (ft2.sq (K := X.K))
  have hlen := rv.length
  have hlp := hp.length
  obtain ⟨as2, h2⟩ := Dp.reads I2 (dPt p) v w1 (dp_pt hv) rw1
  refine SeqAt.call_tuple_index (ks := ps) (k := p) (show s2.heap.IsTuple a its.toArray from pl) ⟨by omega, fun j j1 j2 => ?_⟩ hm ⟨.int (@List.idxOf _ instBEqOfDecidableEq p ps : Nat), H2, I2.tok _, ⟨_, rfl⟩, q _ ?_⟩
  case refine_2 =>
    exact idx_at hm
  obtain ⟨x, hx, rx⟩ := Paired.at2 rv (List.getElem?_eq_getElem j1)
  obtain ⟨pj, ep, rp⟩ := Paired.at hp hx
  rw [List.getElem?_eq_getElem j2] at ep
  cases ep
  obtain ⟨as1, h1⟩ := Dp.reads I2 (dPt ps[j]) x its[j] (dp_pt rp) rx
  rw [← eqv_pt]
  refine PySem.W.eqAt_alike (dPt ps[j]) (dPt p) X.A.in1 s2 its[j] w1 as1 as2 h1 h2 rfl ?_
  show X.A.units + 1 + min 1 1 < cLine
  omega
end Bay
namespace Bay
open PySem PySem.Spec PyProof.Rows L2
open C8 (Cal pe_c Mak pe_mk)
/-! ## repr of a tuple of pairs -/
theorem short_pt {p : Pt} (h : Sm (2 ^ 60) p) : (dPt p).leavesShort 24 = true ∧ (dPt p).showable = true ∧ (dPt p).weight ≤ 200 := by
  have one : ∀ i : Int, -(2 ^ 60) < i → i < 2 ^ 60 → i.natAbs < 2 ^ 60 ∧ ((PyData.int i).shown.length ≤ 24) ∧ i.natAbs.log2 < 1920 ∧ (PyData.int i).weight ≤ 61 := fun i h1 h2 => by
    have ha : i.natAbs < 2 ^ 60 := by omega
    have hb : i.natAbs.log2 < 60 := by
      by_cases z : i.natAbs = 0
      · rw [z]; decide
      · exact (Nat.log2_lt z).mpr ha
    refine ⟨ha, ?_, by omega, ?_⟩
    · show (Str.ofString (toString i)).length ≤ 24
      rw [PySem.ofString_length]
      exact Nat.le_trans (int_text_length_le10 (k := 20) (by decide) (Nat.lt_of_lt_of_le ha (by decide))) (by decide)
    · show (if i == 0 then 0 else i.natAbs.log2 + 1) ≤ 61
      split <;> omega
  obtain ⟨x, y⟩ := p
  obtain ⟨⟨h1, h2⟩, h3, h4⟩ := h
  obtain ⟨_, a2, a3, a4⟩ := one x h1 h2
  obtain ⟨_, b2, b3, b4⟩ := one y h3 h4
  refine ⟨?_, ?_, ?_⟩
  · simp only [dPt, PyData.leavesShort, PyData.leavesShortAll, Bool.and_true, Bool.and_eq_true, decide_eq_true_eq]
    exact ⟨a2, b2⟩
  · simp only [dPt, PyData.showable, PyData.showableAll, Bool.and_true, Bool.and_eq_true, decide_eq_true_eq]
    exact ⟨a3, b3⟩
  · simp only [dPt, PyData.weight, PyData.weightAll] at a4 b4 ⊢
    omega
theorem shows_pts {ps : List Pt} (h : ∀ q ∈ ps, Sm (2 ^ 60) q) (hl : ps.length ≤ 1000) : (PyData.tuple (ps.map dPt)).showable = true ∧ (PyData.tuple (ps.map dPt)).hasDict = false ∧ (PyData.tuple (ps.map dPt)).depth ≤ 8 ∧ (PyData.tuple (ps.map dPt)).shown.length ≤ sizeLine := by
  have all : ∀ ps : List Pt, (∀ q ∈ ps, Sm (2 ^ 60) q) → PyData.showableAll (ps.map dPt) = true ∧ PyData.hasDictAll (ps.map dPt) = false ∧ PyData.leavesShortAll 24 (ps.map dPt) = true ∧ PyData.weightAll (ps.map dPt) ≤ 201 * ps.length := by
    intro ps
    induction ps with
    | nil => exact fun _ => ⟨rfl, rfl, rfl, Nat.le_refl _⟩
    | cons a t ih =>
      intro h
      obtain ⟨e1, e2, e3⟩ := short_pt (h a List.mem_cons_self)
      obtain ⟨i1, i2, i3, i4⟩ := ih fun q hq => h q (List.mem_cons_of_mem _ hq)
      refine ⟨?_, ?_, ?_, ?_⟩
      · rw [List.map_cons, PyData.showableAll, e2, i1]; rfl
      · rw [List.map_cons, PyData.hasDictAll, i2]; rfl
      · rw [List.map_cons, PyData.leavesShortAll, e1, i3]; rfl
      · rw [List.map_cons, PyData.weightAll, List.length_cons]; omega
  obtain ⟨i1, i2, i3, i4⟩ := all ps h
  refine ⟨by rw [PyData.showable]; exact i1, by rw [PyData.hasDict]; exact i2, ?_, ?_⟩
  · rw [PyData.depth]
    have := depth_pts ps
    omega
  · have g := PyData.shown_le 24 (by decide) (.tuple (ps.map dPt)) (by rw [PyData.leavesShort]; exact i3)
    rw [PyData.weight] at g
    rw [sizeLine_eq]
    omega
section
variable {X : Cx}
/-- repr of a tuple of data -/
def rRepr (K : PySem.W.Frag) : List V → Hp → VK → Prop := fun xs H Q => ∃ a d, xs = [.ref a] ∧ Dp K H (.ref a) d ∧ d.showable = true ∧ d.hasDict = false ∧ d.depth ≤ 8 ∧ d.shown.length ≤ sizeLine ∧ Q (.str d.shown) H
theorem cr_repr (hg : X.A.guards = some []) (hu : X.A.units + 64 < cLine) : CallR X (.builtin "repr") (rRepr X.K) := by
  intro pins s σ H xs us Q I r h
  obtain ⟨a, d, rfl, hd, hs, hn, hz, hl, q⟩ := h
  obtain ⟨u, rfl, e⟩ := vals1 r
  cases (show u = Value.ref a from e)
  obtain ⟨as, rd⟩ := Dp.reads I d _ _ hd rfl
  exact repr_of_reads' rd hs (PyData.noDict_hsm hn) hg (by omega) (fun _ _ e => e) (fun h' t tk hk => ⟨.str d.shown, H, I.kept hk, ⟨_, rfl⟩, q⟩) hl
end
/-! ## a law's promise where it is called, no repr under way -/
section
variable {P : Program} {w : World} {K : PySem.W.Frag} {mg mb : Str → Option Value}
/-- the body of a def of one parameter, called by the caller -/
theorem bodyG {base : Heap} {k : Nat} {f : Addr} {fd : FuncData} {x y : Str} {st : Stmt} {N : List Str} {s : Shared} {H : Hp} {u : Value} {v : V} {Q : VK} {E : XK} (F : FunD K x x (defArgs st) (defBody st) (defScope st) [] [] f fd) (S : FnScope N [y] (defScope st))
    (hr : Room (k + 1) callerA) (e0 : Env0 P w K mg base callerA [] s H) (hb : BindsTo s fd ⟨[u], []⟩ [(y, u)]) (r : RelV v u)
    (hbody : ∀ cdv, Room k (callerA.deeper (envOfC x (defScope st) s.heap.objs.size f cdv)) → ∃ t, PSs (cxOf CX0 P w K mg base N x (defScope st) f cdv callerA [] s H E).nox (defBody st) t ∧ t { nx := fun _ H' => Q .non H', rt := Q } (start N [v]) H) :
    codeAny (model P w) callerA (.call (.ref f) ⟨[u], []⟩) (CR CX0 [] P w H s Q E) s := by
  obtain ⟨oc, od, dV, kV, doc, pm, an, cdv, ct, osl, rfl, lk, hcd, _, _⟩ := F.ex
  obtain ⟨t, ht, hq⟩ := hbody cdv (hr.deeper _)
  have ht := ht.nox
  have kin : K.In s.heap := e0.mod.kin.keeps fun b o q => (e0.bs b o q).1
  have nol : s.heap.NoLimit := e0.mod.nolimit.keeps fun b o q => (e0.bs b o q).1
  refine codeAny_call_function hr.depth (kin _ _ lk) rfl S.co S.gen rfl (PySem.W.codeRec_of kin hcd) (hb _ _ _ _ (wpAny_newFunctionEnv_cells S.kind (fun z hz => ?_) fun env he s1 c => ?_))
  · rcases S.par z.1 (List.of_mem_zip (l₁ := [y]) (l₂ := [u]) hz).1 with q | q
    · exact .inl q
    · exact .inr ⟨q, PySem.W.cellsFrom_some _ _ _ (.inl q)⟩
  · subst he
    refine ⟨nol.keeps c.toInCall.keep, codeAny_func (wpAny_mono (ht.run [] s1 _ H _ (inv_start (us := [u]) (vs := [v]) S hr.hd e0 rfl (.cons r .nil) c) hq) (fun fl s' hs => ?_) fun _ _ g => g)⟩
    cases fl with
    | ret z =>
      obtain ⟨a, _, H', J, g1, g2⟩ := hs
      exact ⟨a, H', J.os, J.bare, J.base, J.hok, g1, g2⟩
    | next =>
      obtain ⟨_, H', J, g⟩ := hs
      exact ⟨.non, H', J.os, J.bare, J.base, J.hok, rfl, g⟩
    | brk => exact hs.elim fun _ g => g.elim fun _ g => False.elim g.2
    | cont => exact hs.elim fun _ g => g.elim fun _ g => False.elim g.2
/-- the script alone is tracked, and it only where it is no object of the module -/
def scrH (K : PySem.W.Frag) (a : Addr) (o : Obj) (xs : List V) : Hp := fun b => if b = a ∧ K.lookup a = none then some (.frz o (.lst xs)) else none
theorem scrH_out {a b : Addr} {o : Obj} {xs : List V} {u : HO} (h : scrH K a o xs b = some u) : b = a ∧ K.lookup a = none ∧ u = .frz o (.lst xs) := by
  unfold scrH at h
  split at h
  · rename_i c
    cases h
    exact ⟨c.1, c.2, rfl⟩
  · cases h
/-- the head of a law from its promise at the caller -/
theorem lawG {fa a : Addr} {s₁ : Shared} {vs : List Value} {ns : List Int} (KX : K.In s₁.heap) (hns : s₁.heap.Ns mainGlobals mg) (hb : s₁.heap.Ns builtinsNs mb) (hbb : ∀ x : Str, x ≠ "__name__" → mb x = bootBuiltins x) (hlim : s₁.heap.NoLimit) (hg : s₁.gens = #[])
    (ha : s₁.heap.get? a = some { cls := .type "list", data := .seq vs.toArray }) (hi : IntsAre vs ns) (hl : ns.length ≤ sizeLine)
    (F : ∀ (base : Heap) (H : Hp), K.In base → base.Ns mainGlobals mg → SqL K H a (ns.map V.int) → Env0 P w K mg base callerA [] s₁ H → codeAny (model P w) callerA (.call (.ref fa) ⟨[.ref a], []⟩) (CR CX0 [] P w H s₁ (fun v _ => v = .bl true) fun _ _ _ => False) s₁) :
    codeAny (model P w) callerA (.call (.ref fa) ⟨[.ref a], []⟩) (fun r s' => r = .ok (.ret (.bool true)) ∧ OldK s₁.heap s'.heap ∧ s'.os = s₁.os ∧ AllBare s'.gens) s₁ := by
  obtain ⟨o, eo⟩ : ∃ o : Obj, o = { cls := .type "list", data := .seq vs.toArray } := ⟨_, rfl⟩
  rw [← eo] at ha
  have rv := vals_ints hi
  obtain ⟨H, eH⟩ : ∃ H : Hp, H = scrH K a o (ns.map V.int) := ⟨_, rfl⟩
  have out : ∀ {b u}, H b = some u → b = a ∧ K.lookup a = none ∧ u = .frz o (.lst (ns.map V.int)) := fun q => by rw [eH] at q; exact scrH_out q
  have frz : ∀ {b : Addr}, H b = none ∨ ∃ u, H b = some u := fun {b} => by cases H b <;> simp
  have sq : SqL K H a (ns.map V.int) := by
    cases hk : K.lookup a with
    | none => exact .inl (.inr ⟨o, by rw [eH]; exact if_pos ⟨rfl, hk⟩⟩)
    | some o2 =>
      have q := KX a o2 hk
      rw [ha] at q
      cases q
      subst eo
      exact .inr ⟨_, vs.toArray, _, hk, rfl, rfl, rfl, by rw [List.size_toArray, hi.length]; exact hl, by simpa using rv⟩
  have hok : HOk P w H s₁.heap := fun b u q => by
    obtain ⟨rfl, _, rfl⟩ := out q
    exact ⟨ha, by rw [List.length_map]; exact hl, vs, _, rv, by rw [← eo]; exact ha⟩
  have look : ∀ {b : Addr} {o2 : Obj}, s₁.heap.get? b = some o2 → (b = a → K.lookup a = none → False) → (hidT s₁.heap H).get? b = some o2 := fun {b o2} e n => hidT_get e (by
    rcases frz (b := b) with q | ⟨u, q⟩
    · exact q
    · obtain ⟨z, z2, _⟩ := out q
      exact (n z z2).elim)
  have notd : ∀ {b : Addr} {o2 : Obj} {es : Array DictEntry} {ep : Nat}, s₁.heap.get? b = some o2 → o2.data = .dict es ep → b = a → K.lookup a = none → False := fun {b o2 es ep} e d z _ => by
    rw [z, ha] at e
    cases e
    rw [eo] at d
    cases (show Data.seq vs.toArray _ = Data.dict es ep from d)
  have dict : ∀ {b : Addr} {m : Str → Option Value}, s₁.heap.Ns b m → (hidT s₁.heap H).Ns b m := fun {b m} q => by
    obtain ⟨o2, es, ep, e, d, g⟩ := q
    exact ⟨o2, es, ep, look e (notd e d), d, g⟩
  have hK : K.In (hidT s₁.heap H) := fun b o2 e => look (KX b o2 e) fun z n => by rw [z, n] at e; cases e
  obtain ⟨mc, l1, l2⟩ := hlim
  have e0 : Env0 P w K mg (hidT s₁.heap H) callerA [] s₁ H :=
    { frames := rfl, mod := ⟨hK, dict hns, ⟨mb, dict hb, hbb⟩, ⟨mc, dict l1, l2⟩⟩, bs := fun b o2 e => of_hidT e, bsz := Nat.le_of_eq (hidT_size _ _), funs := trivial, frf := fun b q => absurd (show b ∈ ([] : List Addr) from q) (by simp), hok := hok, bare := .of_eq hg }
  refine codeAny_mono (F _ H hK (dict hns) sq e0) fun r s' h => ?_
  match r, h with
  | .error e, h => exact False.elim h
  | .ok .next, h => exact False.elim h
  | .ok .brk, h => exact False.elim h
  | .ok .cont, h => exact False.elim h
  | .ok (.ret u), h =>
    obtain ⟨v, H', g1, g2, un, ok', g3, q⟩ := h
    cases (show v = .bl true from q)
    cases (show u = Value.bool true from g3)
    refine ⟨rfl, OldK.of_keep fun b o2 e => ?_, g1, g2⟩
    rcases frz (b := b) with n | ⟨u, n⟩
    · exact un.keep b o2 e n (fun z => absurd (show b ∈ ([] : List Addr) from z) (by simp)) (by simp)
    · obtain ⟨z, _, rfl⟩ := out n
      rw [z, ha] at e
      cases e
      rw [z] at n ⊢
      exact (ok' a _ (un.frzs a _ _ n)).1
end
end Bay
namespace Bay
open PySem PySem.Spec PyProof.Rows L2
open C8 (Cal pe_c Mak pe_mk)
theorem cutA {xs : List V} {n : Nat} (h : n ≤ xs.length) : cutV xs (some (n : Int)) none = xs.drop n := by
  unfold cutV
  rw [HT.sIx_nat, HT.sIx_none, Nat.min_eq_left h]
  exact List.take_of_length_le (by simp)
theorem cutB {xs : List V} {n : Nat} (h : n ≤ xs.length) : cutV xs none (some (n : Int)) = xs.take n := by
  unfold cutV
  rw [HT.sIx_nat, HT.sIx_none, Nat.min_eq_left h]
  simp
section
variable {P : Program} {w : World} {K : PySem.W.Frag} {mg : Str → Option Value} {base : Heap}
def spLeast : Sp := fun vs H Q _ => ∃ (a : Addr) (us : List V) (ps : List Pt), vs = [.ref a] ∧ FT H a us ∧ Pts H us ps ∧ 0 < ps.length ∧ ps.length ≤ 1000 ∧ ∀ H' p ws B, Same H H' → H' p = some (.tup ws) → Pts H' ws B → IsBegun ps B → Q (.ref p) H'
theorem scLeastFirst : FnScope ["corners", "at"] ["corners"] (defScope s_least_first) := ⟨rfl, rfl, rfl, by decide +kernel, rfl, by decide +kernel, by decide +kernel⟩
theorem c_least_first (B : Bn mg) (F : Has K mg "least_first" s_least_first ["corners"]) : Cal P w K mg base 1 "least_first" spLeast [] := by
  refine F.cal scLeastFirst (fun vs H Q E h => ?_) (fun f cdv A outer s H vs Q E hr h => ?_)
  · obtain ⟨_, _, _, rfl, _⟩ := h
    rfl
  · obtain ⟨a, us, ps, rfl, ft, hp, h0, h1, k⟩ := h
    refine ⟨_, (pss_cons (ps_set (i := 1) scLeastFirst.nd rfl (Or.inl rfl) (pe_tupIndex hr.units (pv 0) (pa_cons (pe_callB (cr_minPt true K rfl rfl hr.units) (by rfl) B.min (by decide +kernel) (pa_cons (pv 0) pa_nil)) pa_nil)))
 (pss_one (ps_ret (pe_callTy call_tuple_of (by rfl) B.tuple (by decide +kernel) (pa_cons (pe_lst (StX.pa_star (pe_slice sl_tupA (pv 0) (po_some (pv 1)) po_none) (StX.pa_star (pe_slice sl_tupA (pv 0) po_none (po_some (pv 1))) pa_nil))) pa_nil))))), ?_⟩
    have hlu : us.length = ps.length := hp.length
    refine ⟨_, rfl, a, us, ps, rfl, ft, _, rfl, a, us, ps, rfl, ft.sq, hp, h0, fun v p hm hmin hv => ?_⟩
    refine ⟨v, p, rfl, ft, hp, hv, hm, fun j hj => ?_⟩
    obtain ⟨hix, hget⟩ := List.getElem?_eq_some_iff.mp hj
    have last : ∀ (H2 : Hp) (x y : List V), Same H H2 → x = us.drop (j) → y = us.take (j) → (x ++ (y ++ [])).length ≤ sizeLine ∧ ∀ q, H2 q = none → (tCB (fun xs H Q => ∃ p ys, xs = [V.ref p] ∧ ((SqL K H p ys ∧ ∀ l, H l = none → Q (.ref l) (upd H l (.tup ys))) ∨ (SqT K H p ys ∧ Q (.ref p) H))) (fun _ H Q => Q [V.ref q] H)) [] (upd H2 q (.lst (x ++ (y ++ [])))) Q := by
      intro H2 x y s2 ex ey
      subst ex ey
      have hl : (us.drop (j) ++ (us.take (j) ++ [])).length = us.length := by simp; omega
      refine ⟨by rw [hl, hlu]; exact Nat.le_trans h1 (by decide), fun q hq => ?_⟩
      refine ⟨q, _, rfl, .inl ⟨sql upd_same, fun l hl => ?_⟩⟩
      have s3 := sameU (o := .lst (us.drop (j) ++ (us.take (j) ++ []))) s2 hq
      have s4 := sameU (o := .tup (us.drop (j) ++ (us.take (j) ++ []))) s3 hl
      refine k _ l _ (ps.drop j ++ (ps.take j ++ [])) s4 upd_same ?_ ⟨j, hix, fun q hq => by rw [hget]; exact hmin q hq, by rw [List.append_nil]⟩
      have p4 : Pts _ us ps := Paired.kt pt_kt (same_kt s4) hp
      exact Paired.app (Paired.drop _ p4) (Paired.app (Paired.take _ p4) Paired.nil)
    have second : ∀ (H2 : Hp) (x : List V), Same H H2 → x = us.drop j → tSl (rSlA K) (tVar 0) tNoPart (tPart (tVar 1)) [some (.ref a), some (.int j)] H2 fun x1 H3 => ∃ p ys, x1 = V.ref p ∧ (SqT K H3 p ys ∨ SqL K H3 p ys) ∧ (x ++ (ys ++ [])).length ≤ sizeLine ∧ ∀ q, H3 q = none → (tCB (fun xs H Q => ∃ p ys, xs = [V.ref p] ∧ ((SqL K H p ys ∧ ∀ l, H l = none → Q (.ref l) (upd H l (.tup ys))) ∨ (SqT K H p ys ∧ Q (.ref p) H))) (fun _ H Q => Q [V.ref q] H)) [] (upd H3 q (.lst (x ++ (ys ++ [])))) Q := by
      intro H2 x s2 ex
      have ft2 := ft.same s2
      refine ⟨_, rfl, _, rfl, _, rfl, a, us, rfl, ft2.sq, fun hw => ?_, fun hw l2 hl2 => ?_⟩
      · rw [HT.sIx_nat] at hw
        omega
      · rw [cutB (by omega)]
        have s3 := sameU (o := .tup (us.take j)) s2 hl2
        exact ⟨l2, _, rfl, .inl (sqt upd_same), last _ x _ s3 ex rfl⟩
    refine ⟨_, rfl, _, rfl, _, rfl, a, us, rfl, ft.sq, fun hw => ?_, fun hw l hl => ?_⟩
    · rw [HT.sIx_nat, HT.sIx_none] at hw
      have hz : j = 0 := by omega
      exact ⟨a, us, rfl, .inl ft.sq, second H us (Same.refl H) (by rw [hz]; rfl)⟩
    · rw [cutA (by omega)]
      have s1 := sameU (o := .tup (us.drop j)) (Same.refl H) hl
      exact ⟨l, _, rfl, .inl (sqt upd_same), second _ _ s1 rfl⟩
end
end Bay
namespace Bay
open PySem PySem.Spec PyProof.Rows L2
open C8 (Cal pe_c Mak pe_mk)
/-! ## how far the corners of a field lie -/
theorem tsum_abs {α : Type} {f : α → Int} {c : Int} : ∀ {l : List α}, (∀ a ∈ l, -c ≤ f a ∧ f a ≤ c) → -(c * (l.length : Int)) ≤ tsum f l ∧ tsum f l ≤ c * (l.length : Int)
  | [], _ => by simp [tsum]
  | a :: t, h => by
    have h1 := h a (List.mem_cons_self ..)
    have h2 := tsum_abs (l := t) fun x hx => h x (List.mem_cons_of_mem _ hx)
    have e : tsum f (a :: t) = f a + tsum f t := rfl
    have e2 : c * ((a :: t).length : Int) = c * (t.length : Int) + c := by
      rw [List.length_cons]
      push_cast
      rw [Int.mul_add, Int.mul_one]
    rw [e, e2]
    omega
theorem div_abs {x n c : Int} (hn : 0 < n) (h : -c ≤ x ∧ x ≤ c) : -c ≤ x / n ∧ x / n ≤ c := by
  have hc : 0 ≤ c := by omega
  have h1 : c * 1 ≤ c * n := Int.mul_le_mul_of_nonneg_left (by omega) hc
  constructor
  · rw [Int.le_ediv_iff_mul_le hn, Int.neg_mul]
    omega
  · have : x / n < c + 1 := by
      rw [Int.ediv_lt_iff_lt_mul hn, Int.add_mul]
      omega
    omega
theorem mul_abs {x y c d : Int} (hx : -c ≤ x ∧ x ≤ c) (hy : -d ≤ y ∧ y ≤ d) : -(c * d) ≤ x * y ∧ x * y ≤ c * d := by
  have hc : 0 ≤ c := by omega
  have hd : 0 ≤ d := by omega
  have a1 : (x + c) * (d - y) ≥ 0 := Int.mul_nonneg (by omega) (by omega)
  have a2 : (c - x) * (d + y) ≥ 0 := Int.mul_nonneg (by omega) (by omega)
  have a3 : (x + c) * (d + y) ≥ 0 := Int.mul_nonneg (by omega) (by omega)
  have a4 : (c - x) * (d - y) ≥ 0 := Int.mul_nonneg (by omega) (by omega)
  constructor <;> grind
theorem pe_abs (a b : Pt) : -1 ≤ pe a b ∧ pe a b ≤ 1 := by
  unfold pe
  split
  · split <;> omega
  · split
    · split <;> omega
    · omega
theorem rd_abs (d : Nat → Pt) : ∀ j : Nat, -(j : Int) ≤ rdN d j ∧ rdN d j ≤ (j : Int)
  | 0 => by simp [rdN]
  | j + 1 => by
    have h1 := rd_abs d j
    have h2 := pe_abs (d j) (d (j + 1))
    have e : rdN d (j + 1) = rdN d j + pe (d j) (d (j + 1)) := rfl
    rw [e]
    omega
theorem num_abs (D : List Pt) (d : Pt) : 0 ≤ num D d ∧ num D d ≤ (D.length : Int) := by
  unfold num
  rw [tsum_count (fun f => ahead f d)]
  have := List.length_filter_le (fun f => ahead f d) D
  omega
theorem rk_abs {D ps : List Pt} {j : Nat} (hj : j ≤ 63) : -(63 * (D.length : Int)) ≤ rkN D ps j ∧ rkN D ps j ≤ 64 * (D.length : Int) := by
  have h1 := rd_abs (dr ps) j
  have h2 := num_abs D (dr ps j)
  have h3 := mul_abs (x := rdN (dr ps) j) (y := (D.length : Int)) (c := 63) (d := (D.length : Int)) (by omega) (by omega)
  unfold rkN
  omega
theorem kk_abs {n : Nat} {D ps : List Pt} (hD : 0 < D.length) {i j : Nat} (hi : i ≤ 63) (hj : j ≤ 63) : -128 ≤ kk n (D.length : Int) (rkN D ps) i j ∧ kk n (D.length : Int) (rkN D ps) i j ≤ 128 := by
  have h1 := rk_abs (D := D) (ps := ps) hi
  have h2 := rk_abs (D := D) (ps := ps) hj
  have hm : (0 : Int) < D.length := by omega
  have a1 : -127 ≤ (rkN D ps i - rkN D ps j) / (D.length : Int) := by
    rw [Int.le_ediv_iff_mul_le hm]
    omega
  have a2 : (rkN D ps i - rkN D ps j) / (D.length : Int) < 128 := by
    rw [Int.ediv_lt_iff_lt_mul hm]
    omega
  unfold kk u01
  split <;> omega
theorem found_abs {n : Nat} {D ps : List Pt} (hD : 0 < D.length) (hn : n ≤ 63) {i : Nat} (hi : i ≤ 63) : -8064 ≤ found n (D.length : Int) (rkN D ps) i ∧ found n (D.length : Int) (rkN D ps) i ≤ 8064 := by
  have := tsum_abs (f := fun j => kk n (D.length : Int) (rkN D ps) i j) (c := 128) (l := List.range n) fun j hj => kk_abs hD hi (by have := List.mem_range.mp hj; omega)
  rw [List.length_range] at this
  unfold found
  omega
theorem SortOut.abs {ps D : List Pt} {P : Nat → Int} {R : Nat → Pt} {less : Int} (h : SortOut ps D P R less) (h0 : 0 < ps.length) (h1 : ps.length ≤ 63) {i : Nat} (hi : i < ps.length) : -(2 ^ 20) ≤ P i / (ps.length : Int) ∧ P i / (ps.length : Int) ≤ 2 ^ 20 := by
  have hD : 0 < D.length := by
    have : dr ps 0 ∈ D := (h.mem _).mpr (by rw [dirs_map]; exact List.mem_map.mpr ⟨0, List.mem_range.mpr h0, rfl⟩)
    exact List.length_pos_of_mem this
  have hn : (0 : Int) < ps.length := by omega
  obtain ⟨z, z0, z1, el⟩ := h.hl
  have z2 := mul_abs (x := (ps.length : Int)) (y := (ps.length : Int)) (c := 63) (d := 63) (by omega) (by omega)
  have s1 := tsum_abs (f := found ps.length (D.length : Int) (rkN D ps)) (c := 8064) (l := List.range ps.length) fun j hj => found_abs hD (by omega) (by have := List.mem_range.mp hj; omega)
  rw [List.length_range, ← sum_tsum] at s1
  have l1 := div_abs (x := ((List.range ps.length).map (found ps.length (D.length : Int) (rkN D ps))).sum - z) (c := 512001) hn (by omega)
  have f1 := found_abs (n := ps.length) (ps := ps) hD (by omega) (i := i) (by omega)
  refine div_abs hn ?_
  rw [h.hP i hi, el]
  omega
theorem startP_abs {ps D : List Pt} {P : Nat → Int} {R : Nat → Pt} {less : Int} (h : SortOut ps D P R less) (h0 : 0 < ps.length) (h1 : ps.length ≤ 63) (sm : ∀ p ∈ ps, Sm (2 ^ 29) p) (ss : ∀ i, i < ps.length → Sm (2 ^ 29) (sd ps i)) : Sm (2 ^ 57) (startP ps P ps.length) := by
  have hz : ps.getD 0 (0, 0) ∈ ps := by
    rw [List.getD_eq_getElem?_getD, List.getElem?_eq_getElem h0]
    exact List.getElem_mem h0
  have z := sm _ hz
  have t1 := tsum_abs (f := fun i => P i / (ps.length : Int) * (sd ps i).1) (c := 2 ^ 20 * 2 ^ 29) (l := List.range ps.length) fun j hj => by
    have hj := List.mem_range.mp hj
    have := (ss j hj).1
    exact mul_abs (h.abs h0 h1 hj) (by omega)
  have t2 := tsum_abs (f := fun i => P i / (ps.length : Int) * (sd ps i).2) (c := 2 ^ 20 * 2 ^ 29) (l := List.range ps.length) fun j hj => by
    have hj := List.mem_range.mp hj
    have := (ss j hj).2
    exact mul_abs (h.abs h0 h1 hj) (by omega)
  rw [List.length_range] at t1 t2
  unfold startP Sm at *
  simp only
  omega
end Bay
namespace Bay
open PySem PySem.Spec PyProof.Rows L2
open C8 (Cal pe_c Mak pe_mk)
def qR (ps : List Pt) (P : Nat → Int) (R : Nat → Pt) (t : Nat) : Pt :=
  ((startP ps P ps.length).1 + tsum (fun u => (R u).1) (List.range t), (startP ps P ps.length).2 + tsum (fun u => (R u).2) (List.range t))
def qL (ps : List Pt) (P : Nat → Int) (R : Nat → Pt) : List Pt := (List.range ps.length).map (qR ps P R)
theorem perm_of_inj {n : Nat} {f : Nat → Nat} (h1 : ∀ i, i < n → f i < n) (h2 : ∀ i j, i < n → j < n → f i = f j → i = j) : ((List.range n).map f).Perm (List.range n) := by
  have nd : ((List.range n).map f).Nodup := by
    refine List.pairwise_map.mpr (List.Pairwise.imp_of_mem (fun {i j} hi hj hij e => ?_) List.nodup_range)
    exact hij (h2 i j (List.mem_range.mp hi) (List.mem_range.mp hj) e)
  refine (List.perm_ext_iff_of_nodup nd List.nodup_range).mpr fun x => ⟨fun hx => ?_, fun hx => ?_⟩
  · obtain ⟨i, hi, rfl⟩ := List.mem_map.mp hx
    exact List.mem_range.mpr (h1 i (List.mem_range.mp hi))
  · apply Classical.byContradiction
    intro hno
    have hx := List.mem_range.mp hx
    have := sub_len (l := x :: (List.range n).map f) (m := List.range n) (List.nodup_cons.mpr ⟨hno, nd⟩) fun y hy => by
      rcases List.mem_cons.mp hy with e | hy
      · exact e ▸ List.mem_range.mpr hx
      · obtain ⟨i, hi, rfl⟩ := List.mem_map.mp hy
        exact List.mem_range.mpr (h1 i (List.mem_range.mp hi))
    simp at this
    omega
theorem sum_rows {ps D : List Pt} {P : Nat → Int} {R : Nat → Pt} {less : Int} (h0 : 0 < ps.length) (so : SortOut ps D P R less) (g : Pt → Int) : tsum (fun t => g (R t)) (List.range ps.length) = tsum g (sid ps) := by
  have hD : 0 < D.length := by
    have : dr ps 0 ∈ D := (so.mem _).mpr (by rw [dirs_map]; exact List.mem_map.mpr ⟨0, List.mem_range.mpr h0, rfl⟩)
    exact List.length_pos_of_mem this
  have hn : (0 : Int) < ps.length := by omega
  obtain ⟨ix, _, hinj⟩ := spots h0 hD so.hP
  have hp := perm_of_inj (n := ps.length) (f := fun i => (P i % (ps.length : Int)).toNat) (fun i _ => by
    have m1 := Int.emod_nonneg (P i) (Int.ne_of_gt hn)
    have m2 := Int.emod_lt_of_pos (P i) hn
    omega) hinj
  rw [← tsum_perm (fun t => g (R t)) hp, tsum_map, ← sid_range ps, tsum_map]
  exact tsum_congr fun i hi => by rw [so.hR i (List.mem_range.mp hi)]
theorem qL_len (ps : List Pt) (P : Nat → Int) (R : Nat → Pt) : (qL ps P R).length = ps.length := by unfold qL; rw [List.length_map, List.length_range]
theorem qL_at {ps : List Pt} {P : Nat → Int} {R : Nat → Pt} {t : Nat} (ht : t < ps.length) : (qL ps P R).getD t (0, 0) = qR ps P R t := by
  unfold qL
  rw [List.getD_eq_getElem?_getD, List.getElem?_map, List.getElem?_range ht]
  rfl
theorem sd_qL {ps D : List Pt} {P : Nat → Int} {R : Nat → Pt} {less : Int} (h : Fen ps) (so : SortOut ps D P R less) {t : Nat} (ht : t < ps.length) : sd (qL ps P R) t = R t := by
  have h0 : 0 < ps.length := by omega
  have e := cyc_get (l := qL ps P R) (i := t) (by rw [qL_len]; exact ht)
  rw [qL_len, qL_at ht] at e
  have es : (sid (qL ps P R))[t]? = some (wayE (qR ps P R t, (qL ps P R).getD (if t + 1 = ps.length then 0 else t + 1) (0, 0))) := by
    unfold sid
    rw [List.getElem?_map, e]
    rfl
  unfold sd
  rw [List.getD_eq_getElem?_getD, es]
  show way _ _ = _
  by_cases c : t + 1 = ps.length
  · rw [if_pos c, qL_at h0]
    have s1 := sum_rows h0 so (fun v => v.1)
    have s2 := sum_rows h0 so (fun v => v.2)
    have z := h.sds
    rw [← c, tsum_range_succ] at s1 s2
    unfold way qR
    have z1 := z.z1
    have z2 := z.z2
    simp only [List.range_zero, tsum]
    exact Prod.ext (by simp only; omega) (by simp only; omega)
  · rw [if_neg c, qL_at (by omega)]
    unfold way qR
    simp only [tsum_range_succ]
    exact Prod.ext (by simp only; omega) (by simp only; omega)
theorem field_math {ps D : List Pt} {P : Nat → Int} {R : Nat → Pt} {less : Int} (h : Fen ps) (so : SortOut ps D P R less) : 0 < (strL (qL ps P R)).length ∧ ∀ B, IsBegun (strL (qL ps P R)) B → FieldOf ps B := by
  have h3 := h.s.len
  cases ps with
  | nil => simp at h3
  | cons z s =>
    have hD : IsD (sid (z :: s)) D := ⟨⟨so.nd, fun d hd => by
      obtain ⟨v, hv, e⟩ := List.mem_map.mp ((so.mem d).mp hd)
      rw [← e]
      exact dirOf_prim (h.sds.ne v hv)⟩, so.mem⟩
    have hT : ∀ t, t < (z :: s).length → (fun i => !strT (qL (z :: s) P R) i) t = !decide (cr (R (if t = 0 then (z :: s).length - 1 else t - 1)) (R t) = 0) := fun t ht => by
      show (!strT (qL (z :: s) P R) t) = _
      unfold strT prv
      rw [qL_len, sd_qL h so ht]
      have : (if t = 0 then (z :: s).length - 1 else t - 1) < (z :: s).length := by split <;> omega
      rw [sd_qL h so this]
    obtain ⟨ρ0, L, hr, e⟩ := algo h hD rfl so.hP so.hR hT
    have eS : strL (qL (z :: s) P R) = rnd (VL z (D.length : Int) L) D.length ρ0 := by
      rw [← e]
      unfold strL
      rw [qL_len]
      refine List.map_congr_left fun t ht => ?_
      have ht := List.mem_range.mp (List.mem_filter.mp ht).1
      rw [qL_at ht]
      rfl
    have hl : (strL (qL (z :: s) P R)).length = D.length := by rw [eS]; unfold rnd; rw [List.length_map, List.length_range]
    refine ⟨?_, fun B hB => field_of_begun h hr (t := ρ0) (by rw [← eS]; exact hB)⟩
    rw [hl]
    have : dr (z :: s) 0 ∈ D := (so.mem _).mpr (by rw [dirs_map]; exact List.mem_map.mpr ⟨0, List.mem_range.mpr (by omega), rfl⟩)
    exact List.length_pos_of_mem this
end Bay
namespace Bay
open PySem PySem.Spec PyProof.Rows L2
open C8 (Cal pe_c Mak pe_mk)
theorem R_abs {ps D : List Pt} {P : Nat → Int} {R : Nat → Pt} {less : Int} (so : SortOut ps D P R less) (h0 : 0 < ps.length) (ss : ∀ i, i < ps.length → Sm (2 ^ 29) (sd ps i)) {t : Nat} (ht : t < ps.length) : Sm (2 ^ 29) (R t) := by
  have hD : 0 < D.length := by
    have : dr ps 0 ∈ D := (so.mem _).mpr (by rw [dirs_map]; exact List.mem_map.mpr ⟨0, List.mem_range.mpr h0, rfl⟩)
    exact List.length_pos_of_mem this
  obtain ⟨ix, hix, _⟩ := spots h0 hD so.hP
  obtain ⟨a, b⟩ := hix t ht
  have := so.hR _ a
  rw [b] at this
  rw [this]
  exact ss _ a
theorem qL_abs {ps D : List Pt} {P : Nat → Int} {R : Nat → Pt} {less : Int} (so : SortOut ps D P R less) (h0 : 0 < ps.length) (h1 : ps.length ≤ 63) (sm : ∀ p ∈ ps, Sm (2 ^ 29) p) (ss : ∀ i, i < ps.length → Sm (2 ^ 29) (sd ps i)) : ∀ p ∈ qL ps P R, Sm (2 ^ 58) p := by
  intro p hp
  unfold qL at hp
  obtain ⟨t, ht, rfl⟩ := List.mem_map.mp hp
  have ht := List.mem_range.mp ht
  have b := startP_abs so h0 h1 sm ss
  have t1 := tsum_abs (f := fun u => (R u).1) (c := 2 ^ 29) (l := List.range t) fun u hu => by
    have := (R_abs so h0 ss (t := u) (by have := List.mem_range.mp hu; omega)).1
    omega
  have t2 := tsum_abs (f := fun u => (R u).2) (c := 2 ^ 29) (l := List.range t) fun u hu => by
    have := (R_abs so h0 ss (t := u) (by have := List.mem_range.mp hu; omega)).2
    omega
  rw [List.length_range] at t1 t2
  unfold qR Sm at *
  simp only
  omega
theorem fen_sides {ps : List Pt} (h : Fen ps) (sm : ∀ p ∈ ps, Sm (2 ^ 28) p) {i : Nat} (hi : i < ps.length) : sd ps i ≠ (0, 0) ∧ Sm (2 ^ 29) (sd ps i) := by
  have e := sd_mem hi
  refine ⟨h.sds.ne _ e, ?_⟩
  unfold sid at e
  obtain ⟨d, hd, e7⟩ := List.mem_map.mp e
  rw [← e7]
  have m := mem_cyc hd
  exact sm_way (sm _ m.1) (sm _ m.2) (by decide)
section
variable {P : Program} {w : World} {K : PySem.W.Frag} {mg : Str → Option Value} {base : Heap}
theorem made_same {H : Hp} {x dx : Addr} {o : HO} (hx : H x = none) (hdx : H dx = none) (ne : dx ≠ x) : Same H (upd (upd H dx (.own x)) x o) :=
  sameU (sameU (Same.refl H) hdx) (by rw [upd_ne (Ne.symm ne)]; exact hx)
theorem made_after {H H2 : Hp} {x dx : Addr} {o : HO} (hx : H x = none) (hdx : H dx = none) (ne : dx ≠ x) (b : Bx x (upd (upd H dx (.own x)) x o) H2) : Same H H2 := fun c u q =>
  b c u (fun z => by rw [z, hx] at q; cases q) (made_same hx hdx ne _ _ q)
def spField (C : Addr) : Sp := fun vs H Q _ => ∃ (v : V) (ps : List Pt), vs = [v] ∧ IsF C H v ps ∧ Fen ps ∧ ps.length ≤ 63 ∧ (∀ p ∈ ps, Sm (2 ^ 28) p) ∧
  ∀ H' p ws B, Same H H' → H' p = some (.tup ws) → Pts H' ws B → FieldOf ps B → (∀ q ∈ B, Sm (2 ^ 58) q) → 0 < B.length → B.length ≤ 63 → Q (.ref p) H'
theorem scFieldIn : FnScope ["fence", "sides", "x", "y", "corners", "side"] ["fence"] (defScope s_field_in) := ⟨rfl, rfl, rfl, by decide +kernel, rfl, by decide +kernel, by decide +kernel⟩
theorem c_field_in {C : Addr} (FC : HasF K mg C) (C_sorted_in : Cal P w K mg base 6 "sorted_in" (spSorted C) []) (C_straight_in : Cal P w K mg base 9 "straight_in" (spStrIn C) []) (C_least_first : Cal P w K mg base 1 "least_first" spLeast [])
    (M_Fence : Mak P w K mg base 7 "Fence" C (spInit (K := K) C) []) (F : Has K mg "field_in" s_field_in ["fence"]) : Cal P w K mg base 10 "field_in" (spField C) [] := by
  refine F.cal scFieldIn (fun vs H Q E h => ?_) (fun f cdv A outer s H vs Q E hr h => ?_)
  · obtain ⟨_, _, rfl, _⟩ := h
    rfl
  · obtain ⟨v, ps, rfl, hv, hf, h1, sm, k⟩ := h
    have h3 := hf.s.len
    refine ⟨_, (pss_cons (ps_asg (pe_c C_sorted_in hr (by decide) rfl (pa_cons (pv 0) pa_nil)) (pg_tup rfl (pgs_cons (pg_tup rfl (pgs_cons (pg_name (i := 2) scFieldIn.nd rfl (Or.inl rfl)) (pgs_cons (pg_name (i := 3) scFieldIn.nd rfl (Or.inl rfl)) pgs_nil))) (pgs_cons (pg_name (i := 1) scFieldIn.nd rfl (Or.inl rfl)) pgs_nil))))
 (pss_cons (ps_set (i := 4) scFieldIn.nd rfl (Or.inl rfl) (pe_lst pa_nil))
 (pss_cons (ps_for PassesOwn.never rfl (pi_tup (pv 1)) (pg_name (i := 5) scFieldIn.nd rfl (Or.inl rfl))
 (pss_cons (ps_expr (pe_bm PySem.F.plainAttrs_list PySem.F.slot_list_append PySem.F.type_list_append mt_append (pv 4) (pa_cons (pe_tup (pa_cons (pv 2) (pa_cons (pv 3) pa_nil))) pa_nil)))
 (pss_one (ps_par (i := 2) (j := 3) rfl scFieldIn.nd rfl rfl (by decide) rfl rfl (pa_cons (pe_op op_add (pv 2) (ixT (pv 5) pe_int)) (pa_cons (pe_op op_add (pv 3) (ixT (pv 5) pe_int)) pa_nil)) (by rfl)))))
 (pss_one (ps_ret (pe_c C_least_first hr (by decide) rfl (pa_cons (pe_fld (pe_c C_straight_in hr (by decide) rfl (pa_cons (pe_mk M_Fence hr (by decide) rfl (pa_cons (pv 4) (pa_cons pe_bl pa_nil))) pa_nil)) rfl) pa_nil))))))), ?_⟩
    refine ⟨_, rfl, v, ps, rfl, hv, by omega, by omega, fun i hi => fen_sides hf sm hi, fun H1 T X tr rs D Pf R less s1 eT eX etr pr so => ?_⟩
    obtain ⟨X', eX', eX⟩ := eX
    cases eX'
    refine ⟨T, _, rfl, sqt eT, rfl, _, _, rfl, ?_⟩
    refine ⟨X, _, rfl, sqt eX, rfl, _, _, rfl, ?_⟩
    refine ⟨_, _, rfl, ?_⟩
    refine ⟨rfl, _, _, rfl, ?_⟩
    refine ⟨rfl, ?_⟩
    refine ⟨by decide, fun L hL => ?_⟩
    have s2 := sameU (o := .lst []) (Same.refl H1) hL
    have hlr : rs.length = ps.length := by rw [pr.length]; simp
    refine ⟨_, rfl, tr, rfl, ⟨_, sqt (s2 _ _ etr)⟩, ?_⟩
    refine for_it (walk_tup (xs := rs)) (fun t σ H' => Same H1 H' ∧ (∃ cs, H' L = some (.lst cs) ∧ Pts H' cs ((List.range t).map (qR ps Pf R))) ∧ ∃ o5, σ = [some v, some (.ref tr), some (.int (qR ps Pf R t).1), some (.int (qR ps Pf R t).2), some (.ref L), o5]) ⟨s2, ⟨[], upd_same, .nil⟩, none, ?_⟩ (fun i σ H' hi p => sqt (p.1 _ _ etr)) (fun t y σ H0 H' ht p Y => ?_) (fun σ H' p => ?_)
    · have e0 : qR ps Pf R 0 = startP ps Pf ps.length := by
        unfold qR
        simp [tsum]
      rw [e0]
      rfl
    · obtain ⟨rfl, ey⟩ := Y
      obtain ⟨s3, ⟨cs, eL, pc⟩, o5, rfl⟩ := p
      rw [hlr] at ht
      obtain ⟨r0, er, rp⟩ := Paired.at pr ey
      rw [List.getElem?_map, List.getElem?_range ht] at er
      cases er
      have hcl : cs.length = t := by rw [pc.length]; simp
      refine ⟨_, rfl, .inl ⟨rfl, _, sql eL⟩, _, rfl, _, rfl, by show 2 ≤ sizeLine; decide, fun T2 hT2 => ?_⟩
      have s4 := sameU (o := .tup [.int (qR ps Pf R t).1, .int (qR ps Pf R t).2]) (Same.refl H') hT2
      refine ⟨L, cs, .ref T2, rfl, rfl, s4 _ _ eL, by rw [hcl]; exact Nat.lt_of_lt_of_le (Nat.lt_of_lt_of_le ht h1) (by decide), ?_⟩
      have eL2 := s4 _ _ eL
      have kt := kt_upd (o := .lst (cs ++ [.ref T2])) eL2
      have sF : Same H1 (upd (upd H' T2 (.tup [.int (qR ps Pf R t).1, .int (qR ps Pf R t).2])) L (.lst (cs ++ [.ref T2]))) := fun b u q => by
        rw [upd_ne (ne_of_none q hL)]
        exact s4 _ _ (s3 b u q)
      have rp2 := rp.same sF
      refine ⟨_, rfl, _, rfl, rp2.i0 ⟨_, _, rfl, rfl, ?_⟩⟩
      refine ⟨_, rfl, _, rfl, rp2.i1 ⟨_, _, rfl, rfl, ?_⟩⟩
      refine ⟨_, _, rfl, sF, ⟨_, upd_same, ?_⟩, some y, ?_⟩
      · rw [List.range_succ, List.map_append]
        exact Paired.snoc (Paired.kt pt_kt (fun b xs q => kt _ _ (s4 _ _ q)) pc) ⟨T2, rfl, kt _ _ upd_same⟩
      · have e1 : (qR ps Pf R (t + 1)).1 = (qR ps Pf R t).1 + (R t).1 := by unfold qR; simp only [tsum_range_succ]; omega
        have e2 : (qR ps Pf R (t + 1)).2 = (qR ps Pf R t).2 + (R t).2 := by unfold qR; simp only [tsum_range_succ]; omega
        rw [e1, e2]
        rfl
    · obtain ⟨s3, ⟨cs, eL, pc⟩, o5, rfl⟩ := p
      rw [hlr] at pc
      have pc : Pts H' cs (qL ps Pf R) := pc
      have ss : ∀ i, i < ps.length → Sm (2 ^ 29) (sd ps i) := fun i hi => (fen_sides hf sm hi).2
      have qb := qL_abs so (by omega) h1 (fun p hp => (sm p hp).mono (by decide)) ss
      have ql := qL_len ps Pf R
      obtain ⟨f1, f2⟩ := field_math hf so
      have fl := strL_len (qL ps Pf R)
      refine ⟨_, rfl, fun x dx hx hdx ne => ?_⟩
      have m2 := made_same (o := .ins C dx []) hx hdx ne
      refine ⟨x, dx, L, false, true, cs, qL ps Pf R, rfl, upd_same, Sq.same (b := false) m2 (sql eL), Paired.kt pt_kt (same_kt m2) pc, by omega, by omega, fun p hp => (qb p hp).mono (by decide), (fun z => nomatch z), fun H2 c0 t0 us0 ws0 bx b1 b2 b3 b4 b5 => ⟨rfl, ?_⟩⟩
      have s4 := made_after hx hdx ne bx
      have i2 : IsF C H2 (.ref x) (qL ps Pf R) := ⟨x, dx, c0, t0, us0, ws0, rfl, b1, b2, b3, b4, b5⟩
      refine ⟨.ref x, qL ps Pf R, rfl, i2, by omega, fun p hp => (qb p hp).mono (by decide), f1, fun H3 v3 s5 i3 => ?_⟩
      obtain ⟨a, dx, c, t, us, ws, rfl, a1, a2, a3, a4, a5⟩ := i3.ex
      refine ⟨a, C, dx, _, _, rfl, a1, FC.ins.cl, FC.n1, rfl, ?_⟩
      refine ⟨c, us, strL (qL ps Pf R), rfl, a2, a3, f1, by omega, fun H4 p4 ws4 B4 s6 e4 p4' bg => ?_⟩
      obtain ⟨at_, hat, _, eB⟩ := id bg
      have hBl : B4.length = (strL (qL ps Pf R)).length := by rw [eB]; simp; omega
      refine k H4 p4 ws4 B4 (fun b u q => s6 _ _ (s5 _ _ (s4 _ _ (s3 _ _ (s1 _ _ q))))) e4 p4' (f2 _ bg) (fun q hq => qb q (strL_sub ?_)) (by omega) (by omega)
      rw [eB] at hq
      rcases List.mem_append.mp hq with hq | hq
      · exact List.mem_of_mem_drop hq
      · exact List.mem_of_mem_take hq
end
end Bay
namespace Bay
open PySem PySem.Spec PyProof.Rows L2
open C8 (Cal pe_c Mak pe_mk)
def ht (b q : Pt) : Int := b.1 * q.1 + b.2 * q.2
def absI (x : Int) : Int := if x < 0 then -x else x
def IsWid (ns : List Int) (z : Int) : Prop := ∃ M m, M ∈ ns ∧ (∀ a ∈ ns, a ≤ M) ∧ m ∈ ns ∧ (∀ a ∈ ns, m ≤ a) ∧ z = M - m
theorem IsWid.uniq {ns : List Int} {y z : Int} (h1 : IsWid ns y) (h2 : IsWid ns z) : y = z := by
  obtain ⟨M, m, a1, a2, a3, a4, rfl⟩ := h1
  obtain ⟨M', m', b1, b2, b3, b4, rfl⟩ := h2
  have := a2 _ b1
  have := b2 _ a1
  have := a4 _ b3
  have := b4 _ a3
  omega
section
variable {P : Program} {w : World} {K : PySem.W.Frag} {mg : Str → Option Value} {base : Heap}
def spEnd (C : Addr) : Sp := fun vs H Q _ => ∃ (v : V) (ps : List Pt), vs = [v] ∧ IsF C H v ps ∧ Fen ps ∧ ps.length ≤ 63 ∧ (∀ p ∈ ps, Sm (2 ^ 28) p) ∧
  ∀ H' v' B, Same H H' → IsF C H' v' B → FieldOf ps B → (∀ q ∈ B, Sm (2 ^ 58) q) → 0 < B.length → B.length ≤ 63 → Q v' H'
theorem scEndOf : FnScope ["fence"] ["fence"] (defScope s_end_of) := ⟨rfl, rfl, rfl, by decide +kernel, rfl, by decide +kernel, by decide +kernel⟩
theorem c_end_of {C : Addr} (C_need_fence : Cal P w K mg base 1 "need_fence" (spNeedF C) [.str "fence"]) (C_field_in : Cal P w K mg base 10 "field_in" (spField C) []) (M_Fence : Mak P w K mg base 7 "Fence" C (spInit (K := K) C) []) (F : Has K mg "end_of" s_end_of ["fence"]) : Cal P w K mg base 11 "end_of" (spEnd C) [] := by
  refine F.cal scEndOf (fun vs H Q E h => ?_) (fun f cdv A outer s H vs Q E hr h => ?_)
  · obtain ⟨_, _, rfl, _⟩ := h
    rfl
  · obtain ⟨v, ps, rfl, hv, hf, h1, sm, k⟩ := h
    refine ⟨_, (pss_cons (ps_expr (pe_c C_need_fence hr (by decide) rfl (pa_cons (pv 0) pa_nil)))
 (pss_one (ps_ret (pe_mk M_Fence hr (by decide) rfl (pa_cons (pe_c C_field_in hr (by decide) rfl (pa_cons (pv 0) pa_nil)) (pa_cons pe_bl pa_nil)))))), ?_⟩
    refine ⟨_, rfl, v, _, ps, rfl, hv, ?_⟩
    refine ⟨_, rfl, v, ps, rfl, hv, hf, h1, sm, fun H1 L ws B s1 eL pB fo sB b0 b1 => ?_⟩
    intro x dx hx hdx ne
    have m2 := made_same (o := .ins C dx []) hx hdx ne
    refine ⟨x, dx, L, true, true, ws, B, rfl, upd_same, Sq.same (b := true) m2 (sqt eL), Paired.kt pt_kt (same_kt m2) pB, b0, by omega, fun p hp => (sB p hp).mono (by decide), (fun z => nomatch z), fun H2 c0 t0 us0 ws0 bx a1 a2 a3 a4 a5 => ⟨rfl, ?_⟩⟩
    have s4 := made_after hx hdx ne bx
    exact k H2 _ B (fun b u q => s4 _ _ (s1 _ _ q)) ⟨x, dx, c0, t0, us0, ws0, rfl, a1, a2, a3, a4, a5⟩ fo sB b0 b1
def spHts : Sp := fun vs H Q _ => ∃ (a : Addr) (vb : V) (us : List V) (ps : List Pt) (b : Pt), vs = [.ref a, vb] ∧ SqT K H a us ∧ Pts H us ps ∧ IsPt H vb b ∧ Sm (2 ^ 64) b ∧ ps.length ≤ 1000 ∧ ∀ H' p, Same H H' → H' p = some (.lst ((ps.map (ht b)).map V.int)) → Q (.ref p) H'
theorem scHeightsIn : FnScope ["points", "by", "x", "y"] ["points", "by"] (defScope s_heights_in) := ⟨rfl, rfl, rfl, by decide +kernel, rfl, by decide +kernel, by decide +kernel⟩
theorem c_heights_in (F : Has K mg "heights_in" s_heights_in ["points", "by"]) : Cal P w K mg base 1 "heights_in" (spHts (K := K)) [] := by
  refine F.cal scHeightsIn (fun vs H Q E h => ?_) (fun f cdv A outer s H vs Q E hr h => ?_)
  · obtain ⟨_, _, _, _, _, rfl, _⟩ := h
    rfl
  · obtain ⟨a, vb, us, ps, b, rfl, hq, hp, hb, sb, h1, k⟩ := h
    refine ⟨_, (pss_one (ps_ret (pe_lc (own := [("x", 2), ("y", 3)]) rfl scHeightsIn.nd (pi_tup (pv 0)) (blkOk_by (N := ["points", "by", "x", "y"]) (sc := defScope s_heights_in) (by decide +kernel)) (fun _ _ _ _ _ => (tgk K 2 rfl (pgs_cons (pg_name (i := 2) scHeightsIn.nd rfl (Or.inl rfl)) (pgs_cons (pg_name (i := 3) scHeightsIn.nd rfl (Or.inl rfl)) pgs_nil)))) (fun _ _ _ _ _ => pts_nil) (fun _ _ _ _ _ => (pe_op op_add (pe_op op_mul (ixk K (pv 1) pe_int) (pv 2)) (pe_op op_mul (ixk K (pv 1) pe_int) (pv 3))))))), ?_⟩
    have hlu : us.length = ps.length := hp.length
    refine ⟨_, rfl, a, rfl, ⟨_, hq⟩, fun D hD => ?_⟩
    refine lc_gen (walk_tup (xs := us)) ps (fun _ => true) (ht b) IsI hlu.symm (by rw [hlu]; exact Nat.le_trans h1 (by decide)) isI_kt hD (fun H s => Sq.same (b := true) s hq) (fun i e y H0 H' Ny Ns ee s Y hy _ => ?_) (fun ys H2 s e p => ?_)
    · obtain ⟨rfl, ey⟩ := Y
      obtain ⟨y2, ey2, r⟩ := Paired.at2 hp ee
      rw [ey] at ey2
      cases ey2
      obtain ⟨T, rfl, hT⟩ := r
      have hb := hb.same s
      refine ⟨T, _, rfl, sqt (s _ _ hT), rfl, _, _, rfl, ?_⟩
      refine ⟨_, _, rfl, ?_⟩
      refine ⟨rfl, rfl, ?_⟩
      refine ⟨_, rfl, hb.i0 ⟨_, rfl, _, _, rfl, rfl, .inl sb.1, ?_⟩⟩
      refine ⟨_, rfl, hb.i1 ⟨_, rfl, _, _, rfl, rfl, .inl sb.2, ?_⟩⟩
      exact ⟨_, _, rfl, rfl, hy rfl _ _ (Same.refl _) rfl⟩
    · rw [filter_yes] at p
      exact k H2 D s (by rw [e, ints_of p])
def spWay2 (C : Addr) : Sp := fun vs H Q _ => ∃ (v vb : V) (ps : List Pt) (b : Pt), vs = [v, vb] ∧ IsF C H v ps ∧ IsPt H vb b ∧ Sm (2 ^ 64) b ∧ ps.length ≤ 1000 ∧ ∀ H', Same H H' → Q (.int ((((sid ps).map (ht b)).map absI).sum)) H'
theorem scWayIn : FnScope ["fence", "by", "height"] ["fence", "by"] (defScope s_way_in) := ⟨rfl, rfl, rfl, by decide +kernel, rfl, by decide +kernel, by decide +kernel⟩
theorem c_way_in {C : Addr} (FC : HasF K mg C) (B : Bn mg) (C_need_fence : Cal P w K mg base 1 "need_fence" (spNeedF C) [.str "fence"]) (C_heights_in : Cal P w K mg base 1 "heights_in" (spHts (K := K)) []) (C_need_point : Cal P w K mg base 3 "need_point" spNeed []) (F : Has K mg "way_in" s_way_in ["fence", "by"]) : Cal P w K mg base 4 "way_in" (spWay2 C) [] := by
  refine F.cal scWayIn (fun vs H Q E h => ?_) (fun f cdv A outer s H vs Q E hr h => ?_)
  · obtain ⟨_, _, _, _, rfl, _⟩ := h
    rfl
  · obtain ⟨v, vb, ps, b, rfl, hv, hb, sb, h1, k⟩ := h
    refine ⟨_, (pss_cons (ps_expr (pe_c C_need_fence hr (by decide) rfl (pa_cons (pv 0) pa_nil)))
 (pss_one (ps_ret (pe_callB (cr_sum rfl) (by rfl) B.sum (by decide +kernel) (pa_cons (pe_lc (own := [("height", 2)]) rfl scWayIn.nd (pi_list (pe_c C_heights_in hr (by decide) rfl (pa_cons (pe_fld (pv 0) rfl) (pa_cons (pe_c C_need_point hr (by decide) rfl (pa_cons (pv 1) (pa_cons pe_str pa_nil))) pa_nil)))) (blkOk_by (N := ["fence", "by", "height"]) (sc := defScope s_way_in) (by decide +kernel)) (fun _ _ _ _ _ => (pg_name (i := 2) scWayIn.nd rfl (Or.inl rfl))) (fun _ _ _ _ _ => pts_nil) (fun _ _ _ _ _ => (pe_callB call_abs (by rfl) B.abs (by decide +kernel) (pa_cons (pv 2) pa_nil)))) pa_nil))))), ?_⟩
    refine ⟨_, rfl, v, _, ps, rfl, hv, ?_⟩
    obtain ⟨a, dx, c, t, us, ss, rfl, a1, a2, a3, a4, a5⟩ := hv.ex
    have hsn := sid_n ps
    refine ⟨_, rfl, a, C, dx, _, _, rfl, a1, FC.ins.cl, FC.n3, rfl, _, rfl, vb, _, b, rfl, hb, fun H1 s1 => ?_⟩
    refine ⟨t, vb, ss, sid ps, b, rfl, sqt (s1 _ _ a4), Paired.kt pt_kt (same_kt s1) a5, hb.same s1, sb, by omega, fun H2 L s2 eL => ?_⟩
    refine ⟨L, rfl, ⟨_, sql eL⟩, fun D hD => ?_⟩
    refine lc_gen (walk_list (xs := ((sid ps).map (ht b)).map V.int)) ((sid ps).map (ht b)) (fun _ => true) absI IsI (by simp) (by simp only [List.length_map]; exact Nat.le_trans (by omega : (sid ps).length ≤ 1000) (by decide)) isI_kt hD (fun H s => sql (s _ _ eL)) (fun i e y H0 H' Ny Ns ee s Y hy _ => ?_) (fun ys H3 s e p => ?_)
    · obtain ⟨rfl, ey⟩ := Y
      rw [List.getElem?_map, ee] at ey
      cases ey
      exact ⟨rfl, _, rfl, _, rfl, hy rfl _ _ (Same.refl _) rfl⟩
    · rw [filter_yes] at p
      exact ⟨D, _, rfl, sql (by rw [e, ints_of p]), k H3 fun b u q => s _ _ (s2 _ _ (s1 _ _ q))⟩
def spWid (C : Addr) : Sp := fun vs H Q _ => ∃ (v vb : V) (ps : List Pt) (b : Pt), vs = [v, vb] ∧ IsF C H v ps ∧ IsPt H vb b ∧ Sm (2 ^ 64) b ∧ 0 < ps.length ∧ ps.length ≤ 1000 ∧ ∀ H' z, Same H H' → IsWid (ps.map (ht b)) z → Q (.int z) H'
theorem scWidthIn : FnScope ["fence", "by", "heights"] ["fence", "by"] (defScope s_width_in) := ⟨rfl, rfl, rfl, by decide +kernel, rfl, by decide +kernel, by decide +kernel⟩
theorem c_width_in {C : Addr} (FC : HasF K mg C) (B : Bn mg) (C_need_fence : Cal P w K mg base 1 "need_fence" (spNeedF C) [.str "fence"]) (C_heights_in : Cal P w K mg base 1 "heights_in" (spHts (K := K)) []) (C_need_point : Cal P w K mg base 3 "need_point" spNeed []) (F : Has K mg "width_in" s_width_in ["fence", "by"]) : Cal P w K mg base 4 "width_in" (spWid C) [] := by
  refine F.cal scWidthIn (fun vs H Q E h => ?_) (fun f cdv A outer s H vs Q E hr h => ?_)
  · obtain ⟨_, _, _, _, rfl, _⟩ := h
    rfl
  · obtain ⟨v, vb, ps, b, rfl, hv, hb, sb, h0, h1, k⟩ := h
    refine ⟨_, (pss_cons (ps_expr (pe_c C_need_fence hr (by decide) rfl (pa_cons (pv 0) pa_nil)))
 (pss_cons (ps_set (i := 2) scWidthIn.nd rfl (Or.inl rfl) (pe_c C_heights_in hr (by decide) rfl (pa_cons (pe_fld (pv 0) rfl) (pa_cons (pe_c C_need_point hr (by decide) rfl (pa_cons (pv 1) (pa_cons pe_str pa_nil))) pa_nil))))
 (pss_one (ps_ret (pe_op op_sub (pe_callB (cr_max rfl) (by rfl) B.max (by decide +kernel) (pa_cons (pv 2) pa_nil)) (pe_callB (cr_min rfl) (by rfl) B.min (by decide +kernel) (pa_cons (pv 2) pa_nil))))))), ?_⟩
    refine ⟨_, rfl, v, _, ps, rfl, hv, ?_⟩
    obtain ⟨a, dx, c, t, us, ss, rfl, a1, a2, a3, a4, a5⟩ := hv.ex
    refine ⟨_, rfl, a, C, dx, _, _, rfl, a1, FC.ins.cl, FC.n1, rfl, _, rfl, vb, _, b, rfl, hb, fun H1 s1 => ?_⟩
    refine ⟨c, vb, us, ps, b, rfl, (a2.same s1).sq, Paired.kt pt_kt (same_kt s1) a3, hb.same s1, sb, h1, fun H2 L s2 eL => ?_⟩
    have hl : 0 < (ps.map (ht b)).length := by rw [List.length_map]; exact h0
    refine ⟨_, rfl, L, _, rfl, sql eL, hl, fun M m1 m2 => ?_⟩
    refine ⟨_, rfl, L, _, rfl, sql eL, hl, fun m m3 m4 => ?_⟩
    exact ⟨_, _, rfl, rfl, k H2 _ (fun b u q => s2 _ _ (s1 _ _ q)) ⟨M, m, m1, m2, m3, m4, rfl⟩⟩
end
end Bay
namespace Bay
open PySem PySem.Spec PyProof.Rows L2
open C8 (Cal pe_c Mak pe_mk)
/-! ## the orchard -/
structure Orch (H : Hp) (O : Addr) (b : Int) : Prop where
  ex : ∃ (c : Addr) (cs : List Int) (t l : Int), H O = some (.lst [.ref c, .int t, .int l]) ∧ H c = some (.lst (cs.map V.int)) ∧ c ≠ O ∧ 0 ≤ t ∧ t ≤ b ∧ 0 ≤ l ∧ cs.length ≤ 60
theorem Orch.same {H H' : Hp} {O : Addr} {b : Int} (h : Orch H O b) (s : Same H H') : Orch H' O b := by
  obtain ⟨c, cs, t, l, h1, h2, h3⟩ := h.ex
  exact ⟨c, cs, t, l, s _ _ h1, s _ _ h2, h3⟩
theorem Orch.mono {H : Hp} {O : Addr} {b b' : Int} (h : Orch H O b) (e : b ≤ b') : Orch H O b' := by
  obtain ⟨c, cs, t, l, h1, h2, h3, h4, h5, h6⟩ := h.ex
  exact ⟨c, cs, t, l, h1, h2, h3, h4, by omega, h6⟩
theorem cutT {xs : List V} (n : Nat) : cutV xs none (some (n : Int)) = xs.take n := by
  unfold cutV
  rw [HT.sIx_nat, HT.sIx_none, Nat.sub_zero, List.drop_zero]
  by_cases h : n ≤ xs.length
  · rw [Nat.min_eq_left h]
  · rw [Nat.min_eq_right (by omega), List.take_length, List.take_of_length_le (by omega)]
theorem dp_ints {K : PySem.W.Frag} {H : Hp} : ∀ ns : List Int, DpAll K H (ns.map V.int) (ns.map PyData.int)
  | [] => .nil
  | n :: t => .cons (.int n) (dp_ints t)
theorem shp_ints (ns : List Int) : SeqAt.shaped (.list (ns.map PyData.int)) = true := shp_list fun d hd => by
  obtain ⟨n, _, rfl⟩ := List.mem_map.mp hd
  exact ⟨rfl, Nat.zero_le _⟩
section
variable {P : Program} {w : World} {K : PySem.W.Frag} {mg : Str → Option Value} {base : Heap}
def spOrchard : Sp := fun vs H Q _ => ∃ (a : Addr) (ns : List Int), vs = [.ref a] ∧ SqL K H a (ns.map V.int) ∧ ∀ H' O, Same H H' → H O = none → Orch H' O 0 → Q (.ref O) H'
theorem scLawOrchard : FnScope ["_law_script", "_law_cell"] ["_law_script"] (defScope s_law_orchard) := ⟨rfl, rfl, rfl, by decide +kernel, rfl, by decide +kernel, by decide +kernel⟩
theorem c_law_orchard (B : Bn mg) (F : Has K mg "_law_orchard" s_law_orchard ["_law_script"]) : Cal P w K mg base 1 "_law_orchard" (spOrchard (K := K)) [] := by
  refine F.cal scLawOrchard (fun vs H Q E h => ?_) (fun f cdv A outer s H vs Q E hr h => ?_)
  · obtain ⟨_, _, rfl, _⟩ := h
    rfl
  · obtain ⟨a, ns, rfl, hq, k⟩ := h
    refine ⟨_, (pss_one (ps_ret (pe_lst (pa_cons (pe_lc (own := [("_law_cell", 1)]) rfl scLawOrchard.nd (pi_list (pe_slice sl_list (pv 0) po_none (po_some pe_int))) (blkOk_by (N := ["_law_script", "_law_cell"]) (sc := defScope s_law_orchard) (by decide +kernel)) (fun _ _ _ _ _ => (pg_name (i := 1) scLawOrchard.nd rfl (Or.inl rfl))) (fun _ _ _ _ _ => pts_nil) (fun _ _ _ _ _ => (pe_callTy call_int1 (by rfl) B.int (by decide +kernel) (pa_cons (pv 1) pa_nil)))) (pa_cons pe_int (pa_cons pe_int pa_nil)))))), ?_⟩
    have e1 : cutV (ns.map V.int) none (some 60) = (ns.take 60).map V.int := by rw [show (some (60 : Int)) = some ((60 : Nat) : Int) from rfl, cutT, List.map_take]
    have l60 : (ns.take 60).length ≤ 60 := by rw [List.length_take]; omega
    refine ⟨_, rfl, _, rfl, a, _, rfl, hq, fun L hL => ?_⟩
    rw [e1]
    have s1 := sameU (o := .lst ((ns.take 60).map V.int)) (Same.refl H) hL
    refine ⟨L, rfl, ⟨_, sql upd_same⟩, fun D hD => ?_⟩
    refine lc_gen (walk_list (xs := (ns.take 60).map V.int)) (ns.take 60) (fun _ => true) id IsI (by simp) (by rw [List.length_map]; exact Nat.le_trans l60 (by decide)) isI_kt hD (fun H s => sql (s _ _ upd_same)) (fun i e y H0 H' Ny Ns ee s Y hy _ => ?_) (fun ys H3 s e p => ?_)
    · obtain ⟨rfl, ey⟩ := Y
      rw [List.getElem?_map, ee] at ey
      cases ey
      exact ⟨rfl, _, rfl, .inl ⟨_, rfl, hy rfl _ _ (Same.refl _) rfl⟩⟩
    · rw [filter_yes, List.map_id] at p
      refine ⟨by show 3 ≤ sizeLine; decide, fun O hO => ?_⟩
      have sH : Same H H3 := fun b u q => s _ _ (s1 _ _ q)
      have s3 := sameU (o := .lst [.ref D, .int 0, .int 0]) sH hO
      refine k _ O s3 ?_ ⟨D, ns.take 60, 0, 0, upd_same, ?_, ?_, by decide, by decide, by decide, l60⟩
      · cases q : H O with
        | none => rfl
        | some u => rw [s _ _ (s1 _ _ q)] at hO; cases hO
      · rw [upd_ne (ne_of_none e hO), e, ints_of p]
      · exact ne_of_none e hO
def spPrune : Sp := fun vs H Q _ => ∃ (O : Addr) (m b : Int), vs = [.ref O, .int m] ∧ Orch H O b ∧ b < 2 ^ 20 ∧ 0 < m ∧ m < 2 ^ 30 ∧ ∀ H' v, 0 ≤ v → v < m → Bx O H H' → Orch H' O (b + 1) → Q (.int v) H'
theorem scLawPrune : FnScope ["_law_orchard_here", "_law_many", "_law_left", "_law_turn", "_law_cell", "_law_mixed"] ["_law_orchard_here", "_law_many"] (defScope s_law_prune) := ⟨rfl, rfl, rfl, by decide +kernel, rfl, by decide +kernel, by decide +kernel⟩
theorem c_law_prune (B : Bn mg) (F : Has K mg "_law_prune" s_law_prune ["_law_orchard_here", "_law_many"]) : Cal P w K mg base 1 "_law_prune" spPrune [] := by
  refine F.cal scLawPrune (fun vs H Q E h => ?_) (fun f cdv A outer s H vs Q E hr h => ?_)
  · obtain ⟨_, _, _, rfl, _⟩ := h
    rfl
  · obtain ⟨O, m, b, rfl, hO, hb, m0, m1, k⟩ := h
    refine ⟨_, (pss_cons (ps_if (pt_cmpR op_gt (ixL (pv 0) pe_int) pe_int (nomark _)) (pss_cons (ps_set (i := 2) scLawPrune.nd rfl (Or.inl rfl) (pe_callTy call_int1 (by rfl) B.int (by decide +kernel) (pa_cons (ixL (pv 0) pe_int) pa_nil)))
 (pss_cons (ps_asg (pe_op op_fdiv (pv 2) (pv 1)) (pg_sub (pv 0) pe_int set_list (fun _ => rfl)))
 (pss_one (ps_ret (pe_op op_mod (pe_callTy call_int1 (by rfl) B.int (by decide +kernel) (pa_cons (pv 2) pa_nil)) (pv 1)))))) pss_nil)
 (pss_cons (ps_set (i := 3) scLawPrune.nd rfl (Or.inl rfl) (ixL (pv 0) pe_int))
 (pss_cons (ps_asg (pe_op op_add (pv 3) pe_int) (pg_sub (pv 0) pe_int set_list (fun _ => rfl)))
 (pss_cons (ps_set (i := 4) scLawPrune.nd rfl (Or.inl rfl) (pe_op op_add (pe_op op_mul pe_int (pv 3)) pe_int))
 (C8.pss_cut (ps_if (pt_cmpR (op_neD hr.units) (ixL (pv 0) pe_int) (pe_lst pa_nil) (nomark _)) (pss_one (ps_set (i := 4) scLawPrune.nd rfl (Or.inl rfl) (ixL (ixL (pv 0) pe_int) (pe_op op_mod (pe_callTy call_int1 (by rfl) B.int (by decide +kernel) (pa_cons (pv 3) pa_nil)) (pe_callB call_len_seq (by rfl) B.len (by decide +kernel) (pa_cons (ixL (pv 0) pe_int) pa_nil)))))) pss_nil)
 (C8.pss_cut (ps_if (PW.pt (pw_and (pt_cmpR op_lt (pv 3) (pe_callB call_len_seq (by rfl) B.len (by decide +kernel) (pa_cons (ixL (pv 0) pe_int) pa_nil)) (nomark _)) (pw_and1 (pt_cmpR op_ge (pe_callB call_abs (by rfl) B.abs (by decide +kernel) (pa_cons (pv 4) pa_nil)) (pe_op op_pow pe_int pe_int) (nomark _))))) (pss_cons (ps_set (i := 2) scLawPrune.nd rfl (Or.inl rfl) (pe_op op_add (pe_op op_mul pe_int (pe_op op_sub (pe_callB call_abs (by rfl) B.abs (by decide +kernel) (pa_cons (pe_callTy call_int1 (by rfl) B.int (by decide +kernel) (pa_cons (pv 4) pa_nil)) pa_nil)) (pe_op op_pow pe_int pe_int))) (pe_callTy call_int1 (by rfl) B.int (by decide +kernel) (pa_cons (pe_cmpR op_lt (pv 4) pe_int (nomark _)) pa_nil))))
 (pss_cons (ps_asg (pe_op op_fdiv (pv 2) (pv 1)) (pg_sub (pv 0) pe_int set_list (fun _ => rfl)))
 (pss_one (ps_ret (pe_op op_mod (pe_callTy call_int1 (by rfl) B.int (by decide +kernel) (pa_cons (pv 2) pa_nil)) (pv 1)))))) pss_nil)
 (pss_cons (ps_set (i := 5) scLawPrune.nd rfl (Or.inl rfl) (pe_op op_mod (pe_callTy call_int1 (by rfl) B.int (by decide +kernel) (pa_cons (pe_op op_pow (pe_op op_add (pe_op op_add (pe_op op_mod (pe_callTy call_int1 (by rfl) B.int (by decide +kernel) (pa_cons (pv 4) pa_nil)) pe_int) (pe_op op_mul pe_int (pv 3))) pe_int) pe_int) pa_nil)) pe_int))
 (pss_cons (ps_set (i := 5) scLawPrune.nd rfl (Or.inl rfl) (pe_op op_mod (pe_callTy call_int1 (by rfl) B.int (by decide +kernel) (pa_cons (pe_op op_pow (pe_op op_add (pe_op op_add (pe_op op_mul (pv 5) (pe_op op_add (pe_op op_mul pe_int (pv 3)) pe_int)) (pe_op op_mul (pe_op op_mul pe_int (pv 3)) (pv 3))) pe_int) pe_int) pa_nil)) pe_int))
 (pss_one (ps_ret (pe_op op_mod (pe_callTy call_int1 (by rfl) B.int (by decide +kernel) (pa_cons (pe_op op_fdiv (pv 5) pe_int) pa_nil)) (pv 1)))))))))))), ?_⟩
    obtain ⟨c, cs, t, l, eO, ec, ne, t0, tb, l0, lc⟩ := hO.ex
    have stay : ∀ {H' : Hp} {u : HO}, H' c = some (.lst (cs.map V.int)) → (upd H' O u) c = some (.lst (cs.map V.int)) := fun {H' u} e => by rw [upd_ne ne]; exact e
    have em : ∀ x : Int, 0 ≤ x % m ∧ x % m < m := fun x => ⟨Int.emod_nonneg _ (by omega), Int.emod_lt_of_pos _ m0⟩
    refine ⟨_, rfl, O, _, _, _, rfl, rfl, sql eO, rfl, _, _, rfl, rfl, _, rfl, ite_t (fun e => ?_) (fun e => ?_)⟩
    · refine ⟨_, rfl, O, _, _, _, rfl, rfl, sql eO, rfl, .inl ⟨_, rfl, ?_⟩⟩
      refine ⟨_, rfl, _, rfl, _, _, rfl, rfl, ⟨m0, by omega⟩, ?_⟩
      refine ⟨_, rfl, O, _, _, 2, rfl, rfl, eO, rfl, ?_⟩
      refine ⟨_, rfl, .inl ⟨_, rfl, _, rfl, _, _, rfl, rfl, m0, ?_⟩⟩
      exact k _ _ (em l).1 (em l).2 (Bx.set Bx.refl) ⟨c, cs, t, l / m, upd_same, stay ec, ne, t0, by omega, Int.ediv_nonneg l0 (by omega), lc⟩
    · refine ⟨_, rfl, O, _, _, _, rfl, rfl, sql eO, rfl, ?_⟩
      refine ⟨_, rfl, _, _, rfl, rfl, ?_⟩
      refine ⟨_, rfl, O, _, _, 1, rfl, rfl, eO, rfl, ?_⟩
      have eO2 : (upd H O (.lst [.ref c, .int (t + 1), .int l])) O = some (.lst [.ref c, .int (t + 1), .int l]) := upd_same
      have ec2 : (upd H O (.lst [.ref c, .int (t + 1), .int l])) c = some (.lst (cs.map V.int)) := stay ec
      have b2 : Bx O H (upd H O (.lst [.ref c, .int (t + 1), .int l])) := Bx.set Bx.refl
      refine ⟨_, rfl, _, _, rfl, rfl, .inl ⟨by decide, by decide⟩, _, _, rfl, rfl, ?_⟩
      show tSeq _ _ _ _ (upd H O (.lst [.ref c, .int (t + 1), .int l]))
      generalize upd H O (.lst [.ref c, .int (t + 1), .int l]) = H2 at eO2 ec2 b2 ⊢
      refine ⟨fun σ' H3 => Same H2 H3 ∧ ∃ cell : Int, σ' = [some (.ref O), some (.int m), none, some (.int t), some (.int cell), none], ?_, fun σ' H3 hm => ?_⟩
      · refine ⟨_, rfl, O, _, _, _, rfl, rfl, sql eO2, rfl, by decide, fun L hL => ?_⟩
        have s3 := sameU (o := .lst []) (Same.refl H2) hL
        refine ⟨.list (cs.map PyData.int), .list [], .lst (sql (s3 _ _ ec2)) (dp_ints cs), .lst (sql upd_same) .nil, shp_ints cs, rfl, _, rfl, ?_⟩
        rw [eqv_nil]
        refine ite_t (fun hb => ?_) (fun hb => ?_)
        · have hc0 : 0 < cs.length := by
            cases cs with
            | nil => simp at hb
            | cons => simp
          have hcm : (cs.map V.int).length = cs.length := by rw [List.length_map]
          have j0 := Int.emod_nonneg t (b := (cs.length : Int)) (by omega)
          have j1 := Int.emod_lt_of_pos t (b := (cs.length : Int)) (by omega)
          have eg : (cs.map V.int)[(t % (cs.length : Int)).toNat]? = some (V.int (cs[(t % (cs.length : Int)).toNat]'(by omega))) := by
            rw [List.getElem?_map, List.getElem?_eq_getElem (by omega)]
            rfl
          refine ⟨_, rfl, O, _, _, _, rfl, rfl, sql (s3 _ _ eO2), rfl, ?_⟩
          refine ⟨_, rfl, .inl ⟨_, rfl, ?_⟩⟩
          refine ⟨_, rfl, O, _, _, _, rfl, rfl, sql (s3 _ _ eO2), rfl, c, _, rfl, .inl (sql (s3 _ _ ec2)), _, _, rfl, rfl, by rw [hcm]; omega, ?_⟩
          rw [hcm]
          have ea := atI_nat eg
          rw [Int.toNat_of_nonneg j0] at ea
          exact ⟨c, _, t % (cs.length : Int), _, rfl, rfl, sql (s3 _ _ ec2), ea, s3, _, rfl⟩
        · exact ⟨s3, _, rfl⟩
      · obtain ⟨s3, cell, rfl⟩ := hm
        have eO3 := s3 _ _ eO2
        have ec3 := s3 _ _ ec2
        have b3 := b2.same s3
        refine ⟨fun σ' H4 => H4 = H3 ∧ σ' = [some (.ref O), some (.int m), none, some (.int t), some (.int cell), none], ?_, fun σ' H4 hm => ?_⟩
        · refine ⟨_, rfl, _, rfl, O, _, _, _, rfl, rfl, sql eO3, rfl, c, _, rfl, .inl (sql ec3), _, _, rfl, rfl, _, rfl, ite_t (fun _ => ?_) (fun _ => ite_t (fun e => nomatch e) fun _ => ⟨rfl, rfl⟩)⟩
          refine ⟨_, rfl, _, rfl, _, _, rfl, rfl, ⟨by decide, by decide, by decide⟩, _, _, rfl, rfl, _, rfl, ite_t (fun e2 => ?_) (fun _ => ⟨rfl, rfl⟩)⟩
          have e3 : (10 : Int) ^ (18 : Int).toNat ≤ (if cell < 0 then -cell else cell) := of_decide_eq_true e2
          refine ⟨_, rfl, .inl ⟨_, rfl, _, rfl, _, _, rfl, rfl, ⟨by decide, by decide, by decide⟩, _, _, rfl, rfl, _, _, rfl, rfl, .inl ⟨by decide, by decide⟩, ?_⟩⟩
          refine ⟨_, rfl, _, _, rfl, rfl, .inr ⟨_, rfl, _, _, rfl, rfl, ?_⟩⟩
          have lf0 : 0 ≤ 2 * ((if cell < 0 then -cell else cell) - (10 : Int) ^ (18 : Int).toNat) + (if decide (cell < 0) = true then 1 else 0) := by
            generalize (10 : Int) ^ (18 : Int).toNat = q at e3 ⊢
            split <;> split <;> omega
          show tSeq _ _ _ [some (.ref O), some (.int m), some (.int (2 * ((if cell < 0 then -cell else cell) - (10 : Int) ^ (18 : Int).toNat) + (if decide (cell < 0) = true then 1 else 0))), some (.int t), some (.int cell), none] H3
          generalize 2 * ((if cell < 0 then -cell else cell) - (10 : Int) ^ (18 : Int).toNat) + (if decide (cell < 0) = true then 1 else 0) = lf at lf0 ⊢
          refine ⟨_, rfl, _, rfl, _, _, rfl, rfl, ⟨m0, by omega⟩, ?_⟩
          refine ⟨_, rfl, O, _, _, 2, rfl, rfl, eO3, rfl, ?_⟩
          refine ⟨_, rfl, .inl ⟨_, rfl, _, rfl, _, _, rfl, rfl, m0, ?_⟩⟩
          exact k _ _ (em lf).1 (em lf).2 (Bx.set b3) ⟨c, cs, t + 1, lf / m, upd_same, stay ec3, ne, by omega, by omega, Int.ediv_nonneg lf0 (by omega), lc⟩
        · obtain ⟨rfl, rfl⟩ := hm
          have c0 := Int.emod_nonneg cell (b := 2147483549) (by decide)
          have c1 := Int.emod_lt_of_pos cell (b := 2147483549) (by decide)
          refine ⟨_, rfl, .inl ⟨_, rfl, _, _, rfl, rfl, (by decide : (0 : Int) < 2147483549), ?_⟩⟩
          refine ⟨_, rfl, _, _, rfl, rfl, .inl ⟨by decide, by decide⟩, _, _, rfl, rfl, _, _, rfl, rfl, _, _, rfl, rfl, ⟨by decide, by decide, by omega⟩, .inl ⟨_, rfl, _, _, rfl, rfl, (by decide : (0 : Int) < 2147483587), ?_⟩⟩
          have d0 := Int.emod_nonneg ((cell % 2147483549 + 86179 * t + 8863) ^ (5 : Int).toNat) (b := 2147483587) (by decide)
          have d1 := Int.emod_lt_of_pos ((cell % 2147483549 + 86179 * t + 8863) ^ (5 : Int).toNat) (b := 2147483587) (by decide)
          show tSeq _ _ _ [some (.ref O), some (.int m), none, some (.int t), some (.int cell), some (.int ((cell % 2147483549 + 86179 * t + 8863) ^ (5 : Int).toNat % 2147483587))] H4
          generalize (cell % 2147483549 + 86179 * t + 8863) ^ (5 : Int).toNat % 2147483587 = mx0 at d0 d1 ⊢
          have q1 := mul_abs (x := mx0) (y := 2 * t + 8863) (c := 2147483587) (d := 2 * 2 ^ 20 + 8863) (by omega) (by omega)
          have q2 := mul_abs (x := 112213 * t) (y := t) (c := 112213 * 2 ^ 20) (d := 2 ^ 20) (by omega) (by omega)
          refine ⟨_, rfl, _, rfl, _, _, rfl, rfl, .inl ⟨by decide, by decide⟩, _, _, rfl, rfl, _, _, rfl, rfl, .inl ⟨by omega, by omega⟩, ?_⟩
          refine ⟨_, rfl, _, _, rfl, rfl, .inl ⟨by decide, by decide⟩, _, rfl, _, _, rfl, rfl, .inl ⟨by omega, by omega⟩, _, _, rfl, rfl, _, _, rfl, rfl, _, _, rfl, rfl, ⟨by decide, by decide, by omega⟩, .inl ⟨_, rfl, _, _, rfl, rfl, (by decide : (0 : Int) < 2147483563), ?_⟩⟩
          refine ⟨_, rfl, _, _, rfl, rfl, ⟨by decide, by decide⟩, .inl ⟨_, rfl, _, rfl, _, _, rfl, rfl, m0, ?_⟩⟩
          exact k _ _ (em _).1 (em _).2 b3 ⟨c, cs, t + 1, l, eO3, ec3, ne, by omega, by omega, l0, lc⟩
end
end Bay
namespace Bay
open PySem PySem.Spec PyProof.Rows L2
open C8 (Cal pe_c Mak pe_mk)
section
variable {P : Program} {w : World} {K : PySem.W.Frag} {mg : Str → Option Value} {base : Heap}
def spLX : Sp := fun vs H Q _ => ∃ (u v t : V) (a b c : Pt), vs = [u, v, t] ∧ IsPt H u a ∧ IsPt H v b ∧ IsPt H t c ∧ Sm (2 ^ 62) a ∧ Sm (2 ^ 62) b ∧ Q (.int (lcross a b c)) H
theorem scLawCross : FnScope ["_law_one", "_law_other", "_law_third"] ["_law_one", "_law_other", "_law_third"] (defScope s_law_cross) := ⟨rfl, rfl, rfl, by decide +kernel, rfl, by decide +kernel, by decide +kernel⟩
theorem c_law_cross (F : Has K mg "_law_cross" s_law_cross ["_law_one", "_law_other", "_law_third"]) : Cal P w K mg base 1 "_law_cross" spLX [] := by
  refine F.cal scLawCross (fun vs H Q E h => ?_) (fun f cdv A outer s H vs Q E hr h => ?_)
  · obtain ⟨_, _, _, _, _, _, rfl, _⟩ := h
    rfl
  · obtain ⟨u, v, t, a, b, c, rfl, hu, hv, ht, sa, sb, k⟩ := h
    refine ⟨_, (pss_one (ps_ret (pe_op op_sub (pe_op op_mul (pe_op op_sub (ixT (pv 1) pe_int) (ixT (pv 0) pe_int)) (pe_op op_sub (ixT (pv 2) pe_int) (ixT (pv 0) pe_int))) (pe_op op_mul (pe_op op_sub (ixT (pv 1) pe_int) (ixT (pv 0) pe_int)) (pe_op op_sub (ixT (pv 2) pe_int) (ixT (pv 0) pe_int)))))), ?_⟩
    have w1 := sm_way (m := 2 ^ 64) sa sb (by decide)
    refine ⟨_, rfl, hv.i0 ⟨_, rfl, hu.i0 ⟨_, _, rfl, rfl, _, rfl, ht.i1 ⟨_, rfl, hu.i1 ⟨_, _, rfl, rfl, _, _, rfl, rfl, .inl w1.1, ?_⟩⟩⟩⟩⟩
    refine ⟨_, rfl, hv.i1 ⟨_, rfl, hu.i1 ⟨_, _, rfl, rfl, _, rfl, ht.i0 ⟨_, rfl, hu.i0 ⟨_, _, rfl, rfl, _, _, rfl, rfl, .inl w1.2, ?_⟩⟩⟩⟩⟩
    exact ⟨_, _, rfl, rfl, k⟩
def spLOn : Sp := fun vs H Q _ => ∃ (u v t : V) (a b c : Pt), vs = [u, v, t] ∧ IsPt H u a ∧ IsPt H v b ∧ IsPt H t c ∧ Sm (2 ^ 62) a ∧ Sm (2 ^ 62) b ∧ Q (.bl (decide (onSt a b c))) H
theorem scLawOn : FnScope ["_law_one", "_law_other", "_law_third", "_law_x_in"] ["_law_one", "_law_other", "_law_third"] (defScope s_law_on) := ⟨rfl, rfl, rfl, by decide +kernel, rfl, by decide +kernel, by decide +kernel⟩
theorem c_law_on (B : Bn mg) (C_law_cross : Cal P w K mg base 1 "_law_cross" spLX []) (F : Has K mg "_law_on" s_law_on ["_law_one", "_law_other", "_law_third"]) : Cal P w K mg base 2 "_law_on" spLOn [] := by
  refine F.cal scLawOn (fun vs H Q E h => ?_) (fun f cdv A outer s H vs Q E hr h => ?_)
  · obtain ⟨_, _, _, _, _, _, rfl, _⟩ := h
    rfl
  · obtain ⟨u, v, t, a, b, c, rfl, hu, hv, ht, sa, sb, k⟩ := h
    refine ⟨_, (pss_cons (ps_if (pt_cmpR op_ne (pe_c C_law_cross hr (by decide) rfl (pa_cons (pv 0) (pa_cons (pv 1) (pa_cons (pv 2) pa_nil)))) pe_int (nomark _)) (pss_one (ps_ret pe_bl)) pss_nil)
 (C8.pss_cut (ps_set (i := 3) scLawOn.nd rfl (Or.inl rfl) (pe_chain op_le op_le (pe_callB (call_min2 rfl) (by rfl) B.min (by decide +kernel) (pa_cons (ixT (pv 0) pe_int) (pa_cons (ixT (pv 1) pe_int) pa_nil))) (ixT (pv 2) pe_int) (pe_callB (call_max2 rfl) (by rfl) B.max (by decide +kernel) (pa_cons (ixT (pv 0) pe_int) (pa_cons (ixT (pv 1) pe_int) pa_nil)))))
 (pss_one (ps_ret (pe_and (pv 3) (pe_one (pe_chain op_le op_le (pe_callB (call_min2 rfl) (by rfl) B.min (by decide +kernel) (pa_cons (ixT (pv 0) pe_int) (pa_cons (ixT (pv 1) pe_int) pa_nil))) (ixT (pv 2) pe_int) (pe_callB (call_max2 rfl) (by rfl) B.max (by decide +kernel) (pa_cons (ixT (pv 0) pe_int) (pa_cons (ixT (pv 1) pe_int) pa_nil)))))))))), ?_⟩
    refine ⟨_, rfl, _, rfl, _, rfl, u, v, t, a, b, c, rfl, hu, hv, ht, sa, sb, rfl, _, rfl, ite_t (fun hb => ?_) (fun hb => ?_)⟩
    · have h0 : ¬ onSt a b c := fun o => by
        have := o.1
        simp [this] at hb
      rw [decide_eq_false h0] at k
      exact k
    · have h0 : lcross a b c = 0 := by simpa using hb
      refine ⟨fun σ H' => H' = H ∧ σ = [some u, some v, some t, some (.bl (decide (mn a.1 b.1 ≤ c.1) && decide (c.1 ≤ mx a.1 b.1)))], ?_, fun σ H' hm => ?_⟩
      · refine ⟨_, rfl, hu.i0 ⟨_, rfl, hv.i0 ⟨_, _, rfl, _, rfl, ht.i0 ⟨_, _, rfl, rfl, _, rfl, ite_t (fun h1 => ?_) (fun h1 => ?_)⟩⟩⟩⟩
        · refine ⟨_, rfl, hu.i0 ⟨_, rfl, hv.i0 ⟨_, _, rfl, _, _, rfl, rfl, rfl, ?_⟩⟩⟩
          rw [show decide (mn a.1 b.1 ≤ c.1) = true from h1]
          rfl
        · refine ⟨rfl, ?_⟩
          rw [show decide (mn a.1 b.1 ≤ c.1) = false from h1]
          rfl
      · obtain ⟨rfl, rfl⟩ := hm
        have key : decide (onSt a b c) = ((decide (mn a.1 b.1 ≤ c.1) && decide (c.1 ≤ mx a.1 b.1)) && (decide (mn a.2 b.2 ≤ c.2) && decide (c.2 ≤ mx a.2 b.2))) := by
          unfold onSt inBox
          simp only [h0, true_and]
          rw [Bool.decide_and, Bool.decide_and, Bool.decide_and]
        rw [key] at k
        refine ⟨_, rfl, _, rfl, ite_t (fun h1 => ?_) (fun h1 => ?_)⟩
        · rw [h1, Bool.true_and] at k
          refine ⟨_, rfl, hu.i1 ⟨_, rfl, hv.i1 ⟨_, _, rfl, _, rfl, ht.i1 ⟨_, _, rfl, rfl, _, rfl, ite_t (fun h2 => ?_) (fun h2 => ?_)⟩⟩⟩⟩
          · rw [show decide (mn a.2 b.2 ≤ c.2) = true from h2, Bool.true_and] at k
            exact ⟨_, rfl, hu.i1 ⟨_, rfl, hv.i1 ⟨_, _, rfl, _, _, rfl, rfl, k⟩⟩⟩
          · rw [show decide (mn a.2 b.2 ≤ c.2) = false from h2] at k
            exact k
        · rw [h1, Bool.false_and] at k
          exact k
end
end Bay
namespace Bay
open PySem PySem.Spec PyProof.Rows L2
open C8 (Cal pe_c Mak pe_mk)
theorem in4 (x y z t : Int) : inV (.int 0) [.int x, .int y, .int z, .int t] = (decide (x = 0) || (decide (y = 0) || (decide (z = 0) || decide (t = 0)))) := by
  have e : ∀ n : Int, eqV (.int n) (.int 0) = decide (n = 0) := fun n => by
    show (n == 0) = _
    by_cases h : n = 0 <;> simp [h]
  unfold inV
  simp only [List.any_cons, List.any_nil, e, Bool.or_false]
theorem ne_bl (x y : Bool) : (!decide (V.bl x = V.bl y)) = (x != y) := by cases x <;> cases y <;> rfl
section
variable {P : Program} {w : World} {K : PySem.W.Frag} {mg : Str → Option Value} {base : Heap}
def spLMeet : Sp := fun vs H Q _ => ∃ (x u v t : V) (a b c d : Pt), vs = [x, u, v, t] ∧ IsPt H x a ∧ IsPt H u b ∧ IsPt H v c ∧ IsPt H t d ∧ Sm (2 ^ 62) a ∧ Sm (2 ^ 62) b ∧ Sm (2 ^ 62) c ∧ Sm (2 ^ 62) d ∧ ∀ H', Same H H' → Q (.bl (lMeet a b c d)) H'
theorem scLawMeet : FnScope ["_law_one", "_law_other", "_law_third", "_law_last", "_law_mine", "_law_its", "_law_flat"] ["_law_one", "_law_other", "_law_third", "_law_last"] (defScope s_law_meet) := ⟨rfl, rfl, rfl, by decide +kernel, rfl, by decide +kernel, by decide +kernel⟩
theorem c_law_meet (C_law_cross : Cal P w K mg base 1 "_law_cross" spLX []) (C_law_on : Cal P w K mg base 2 "_law_on" spLOn []) (F : Has K mg "_law_meet" s_law_meet ["_law_one", "_law_other", "_law_third", "_law_last"]) : Cal P w K mg base 3 "_law_meet" spLMeet [] := by
  refine F.cal scLawMeet (fun vs H Q E h => ?_) (fun f cdv A outer s H vs Q E hr h => ?_)
  · obtain ⟨_, _, _, _, _, _, _, _, rfl, _⟩ := h
    rfl
  · obtain ⟨x, u, v, t, a, b, c, d, rfl, hx, hu, hv, ht, sa, sb, sc, sd, k⟩ := h
    refine ⟨_, (pss_cons (ps_if (PW.pt (pw_or (pt_val (pe_c C_law_on hr (by decide) rfl (pa_cons (pv 0) (pa_cons (pv 1) (pa_cons (pv 2) pa_nil))))) (pw_or (pt_val (pe_c C_law_on hr (by decide) rfl (pa_cons (pv 0) (pa_cons (pv 1) (pa_cons (pv 3) pa_nil))))) (pw_or (pt_val (pe_c C_law_on hr (by decide) rfl (pa_cons (pv 2) (pa_cons (pv 3) (pa_cons (pv 0) pa_nil))))) (pw_or1 (pt_val (pe_c C_law_on hr (by decide) rfl (pa_cons (pv 2) (pa_cons (pv 3) (pa_cons (pv 1) pa_nil)))))))))) (pss_one (ps_ret pe_bl)) pss_nil)
 (pss_cons (ps_set (i := 4) scLawMeet.nd rfl (Or.inl rfl) (pe_lst (pa_cons (pe_cmpR op_gt (pe_c C_law_cross hr (by decide) rfl (pa_cons (pv 0) (pa_cons (pv 1) (pa_cons (pv 2) pa_nil)))) pe_int (nomark _)) (pa_cons (pe_cmpR op_gt (pe_c C_law_cross hr (by decide) rfl (pa_cons (pv 0) (pa_cons (pv 1) (pa_cons (pv 3) pa_nil)))) pe_int (nomark _)) pa_nil))))
 (pss_cons (ps_set (i := 5) scLawMeet.nd rfl (Or.inl rfl) (pe_lst (pa_cons (pe_cmpR op_gt (pe_c C_law_cross hr (by decide) rfl (pa_cons (pv 2) (pa_cons (pv 3) (pa_cons (pv 0) pa_nil)))) pe_int (nomark _)) (pa_cons (pe_cmpR op_gt (pe_c C_law_cross hr (by decide) rfl (pa_cons (pv 2) (pa_cons (pv 3) (pa_cons (pv 1) pa_nil)))) pe_int (nomark _)) pa_nil))))
 (pss_cons (ps_set (i := 6) scLawMeet.nd rfl (Or.inl rfl) (pe_cmpR op_in_seq pe_int (pe_tup (pa_cons (pe_c C_law_cross hr (by decide) rfl (pa_cons (pv 0) (pa_cons (pv 1) (pa_cons (pv 2) pa_nil)))) (pa_cons (pe_c C_law_cross hr (by decide) rfl (pa_cons (pv 0) (pa_cons (pv 1) (pa_cons (pv 3) pa_nil)))) (pa_cons (pe_c C_law_cross hr (by decide) rfl (pa_cons (pv 2) (pa_cons (pv 3) (pa_cons (pv 0) pa_nil)))) (pa_cons (pe_c C_law_cross hr (by decide) rfl (pa_cons (pv 2) (pa_cons (pv 3) (pa_cons (pv 1) pa_nil)))) pa_nil))))) rfl))
 (pss_one (ps_ret (pe_and (pe_cmpR op_ne (ixL (pv 4) pe_int) (ixL (pv 4) pe_int) (nomark _)) (pe_and (pe_cmpR op_ne (ixL (pv 5) pe_int) (ixL (pv 5) pe_int) (nomark _)) (pe_one (pe_not (pv 6))))))))))), ?_⟩
    unfold lMeet at k
    refine ⟨_, rfl, _, rfl, _, rfl, x, u, v, a, b, c, rfl, hx, hu, hv, sa, sb, _, rfl, ite_t (fun e1 => ?_) (fun e1 => ?_)⟩
    · rw [e1] at k
      exact k H (Same.refl H)
    refine ⟨_, rfl, _, rfl, _, rfl, x, u, t, a, b, d, rfl, hx, hu, ht, sa, sb, _, rfl, ite_t (fun e2 => ?_) (fun e2 => ?_)⟩
    · rw [e1, e2] at k
      exact k H (Same.refl H)
    refine ⟨_, rfl, _, rfl, _, rfl, v, t, x, c, d, a, rfl, hv, ht, hx, sc, sd, _, rfl, ite_t (fun e3 => ?_) (fun e3 => ?_)⟩
    · rw [e1, e2, e3] at k
      exact k H (Same.refl H)
    refine ⟨_, rfl, _, rfl, _, rfl, v, t, u, c, d, b, rfl, hv, ht, hu, sc, sd, _, rfl, ite_t (fun e4 => ?_) (fun e4 => ?_)⟩
    · rw [e1, e2, e3, e4] at k
      exact k H (Same.refl H)
    rw [e1, e2, e3, e4] at k
    replace k : ∀ H', Same H H' → Q (.bl ((decide (lcross a b c > 0) != decide (lcross a b d > 0)) && ((decide (lcross c d a > 0) != decide (lcross c d b > 0)) && !(decide (lcross a b c = 0) || (decide (lcross a b d = 0) || (decide (lcross c d a = 0) || decide (lcross c d b = 0))))))) H' := k
    refine ⟨_, rfl, _, rfl, _, rfl, x, u, v, a, b, c, rfl, hx, hu, hv, sa, sb, _, _, rfl, rfl, ?_⟩
    refine ⟨_, rfl, _, rfl, _, rfl, x, u, t, a, b, d, rfl, hx, hu, ht, sa, sb, _, _, rfl, rfl, by show 2 ≤ sizeLine; decide, fun L1 hL1 => ?_⟩
    have s1 := sameU (o := .lst [.bl (decide (0 < lcross a b c)), .bl (decide (0 < lcross a b d))]) (Same.refl H) hL1
    refine ⟨_, rfl, _, rfl, _, rfl, v, t, x, c, d, a, rfl, hv.same s1, ht.same s1, hx.same s1, sc, sd, _, _, rfl, rfl, ?_⟩
    refine ⟨_, rfl, _, rfl, _, rfl, v, t, u, c, d, b, rfl, hv.same s1, ht.same s1, hu.same s1, sc, sd, _, _, rfl, rfl, by show 2 ≤ sizeLine; decide, fun L2 hL2 => ?_⟩
    have s2 := sameU (o := .lst [.bl (decide (0 < lcross c d a)), .bl (decide (0 < lcross c d b))]) s1 hL2
    have s2' := sameU (o := .lst [.bl (decide (0 < lcross c d a)), .bl (decide (0 < lcross c d b))]) (Same.refl _) hL2
    have f1 := s2' _ _ (upd_same (H := H) (a := L1) (o := .lst [.bl (decide (0 < lcross a b c)), .bl (decide (0 < lcross a b d))]))
    refine ⟨_, rfl, _, rfl, _, rfl, x, u, v, a, b, c, rfl, hx.same s2, hu.same s2, hv.same s2, sa, sb, ?_⟩
    refine ⟨_, rfl, _, rfl, _, rfl, x, u, t, a, b, d, rfl, hx.same s2, hu.same s2, ht.same s2, sa, sb, ?_⟩
    refine ⟨_, rfl, _, rfl, _, rfl, v, t, x, c, d, a, rfl, hv.same s2, ht.same s2, hx.same s2, sc, sd, ?_⟩
    refine ⟨_, rfl, _, rfl, _, rfl, v, t, u, c, d, b, rfl, hv.same s2, ht.same s2, hu.same s2, sc, sd, by show 4 ≤ sizeLine; decide, fun T hT => ?_⟩
    have s3 := sameU (o := .tup [.int (lcross a b c), .int (lcross a b d), .int (lcross c d a), .int (lcross c d b)]) s2 hT
    have s3' := sameU (o := .tup [.int (lcross a b c), .int (lcross a b d), .int (lcross c d a), .int (lcross c d b)]) (Same.refl _) hT
    have f1 := s3' _ _ f1
    have f2 := s3' _ _ (upd_same (a := L2))
    refine ⟨T, _, rfl, .inr (sqt upd_same), rfl, rfl, ?_⟩
    have e5 : (if false = true then !inV (V.int 0) [.int (lcross a b c), .int (lcross a b d), .int (lcross c d a), .int (lcross c d b)] else inV (V.int 0) [.int (lcross a b c), .int (lcross a b d), .int (lcross c d a), .int (lcross c d b)]) = (decide (lcross a b c = 0) || (decide (lcross a b d = 0) || (decide (lcross c d a = 0) || decide (lcross c d b = 0)))) := in4 _ _ _ _
    rw [e5]
    refine ⟨_, rfl, L1, _, _, _, rfl, rfl, sql f1, rfl, ?_⟩
    refine ⟨_, rfl, L1, _, _, _, rfl, rfl, sql f1, rfl, rfl, _, rfl, ite_t (fun g1 => ?_) (fun g1 => ?_)⟩
    · rw [ne_bl] at g1
      refine ⟨_, rfl, L2, _, _, _, rfl, rfl, sql f2, rfl, ?_⟩
      refine ⟨_, rfl, L2, _, _, _, rfl, rfl, sql f2, rfl, rfl, _, rfl, ite_t (fun g2 => ?_) (fun g2 => ?_)⟩
      · rw [ne_bl] at g2
        refine ⟨_, rfl, _, rfl, ?_⟩
        have := k _ s3
        rw [show (decide (lcross a b c > 0) != decide (lcross a b d > 0)) = true from g1, show (decide (lcross c d a > 0) != decide (lcross c d b > 0)) = true from g2, Bool.true_and, Bool.true_and] at this
        exact this
      · rw [ne_bl] at g2
        have := k _ s3
        rw [show (decide (lcross a b c > 0) != decide (lcross a b d > 0)) = true from g1, show (decide (lcross c d a > 0) != decide (lcross c d b > 0)) = false from g2, Bool.true_and, Bool.false_and] at this
        exact this
    · rw [ne_bl] at g1
      have := k _ s3
      rw [show (decide (lcross a b c > 0) != decide (lcross a b d > 0)) = false from g1, Bool.false_and] at this
      exact this
end
end Bay
namespace Bay
open PySem PySem.Spec PyProof.Rows L2
open C8 (Cal pe_c Mak pe_mk)
def tClrB (K : PySem.W.Frag) : TS := tIfS (tTest (tOp (rEqD K) (tVar 4) (tVar 6))) (tSeq (tAsg (tOp (rI0 fun i j => .int (i + j))
    (tOp (L2.rI CMul fun i j => .int (i * j)) (tOp (rI0 fun i j => .int (i - j)) (tOp (rIxT K) (tVar 5) (tC (.int 0))) (tOp (rIxT K) (tVar 4) (tC (.int 0)))) (tOp (rI0 fun i j => .int (i - j)) (tOp (rIxT K) (tVar 7) (tC (.int 0))) (tOp (rIxT K) (tVar 4) (tC (.int 0)))))
    (tOp (L2.rI CMul fun i j => .int (i * j)) (tOp (rI0 fun i j => .int (i - j)) (tOp (rIxT K) (tVar 5) (tC (.int 1))) (tOp (rIxT K) (tVar 4) (tC (.int 1)))) (tOp (rI0 fun i j => .int (i - j)) (tOp (rIxT K) (tVar 7) (tC (.int 1))) (tOp (rIxT K) (tVar 4) (tC (.int 1)))))) (gName 8))
  (tRet (tOrV (tOp rNe (tCall spLX [] C8.E0 (tCons (tVar 4) (tCons (tVar 5) (tCons (tVar 7) tNil)))) (tC (.int 0))) (tOp (rI0 fun i j => .bl (decide (i < j))) (tVar 8) (tC (.int 0)))))) tNext
theorem clrB {K : PySem.W.Frag} {E : Ends} {o0 o1 o2 o3 o8 : Option V} {H : Hp} {ve vm vs vt : V} {e m s t : Pt} (he : IsPt H ve e) (hm : IsPt H vm m) (hs : IsPt H vs s) (ht : IsPt H vt t) (se : Sm (2 ^ 62) e) (sm : Sm (2 ^ 62) m)
    (yes : e = s → E.rt (.bl (chk e m t)) H) (no : e ≠ s → E.nx [o0, o1, o2, o3, some ve, some vm, some vs, some vt, o8] H) : tClrB K E [o0, o1, o2, o3, some ve, some vm, some vs, some vt, o8] H := by
  refine ⟨_, rfl, _, rfl, dPt e, dPt s, dp_pt he, dp_pt hs, rfl, rfl, _, rfl, ?_⟩
  rw [eqv_pt]
  refine ite_t (fun h => ?_) (fun h => no (of_decide_eq_false h))
  have k := yes (of_decide_eq_true h)
  have w1 := sm_way (m := 2 ^ 64) se sm (by decide)
  refine ⟨_, rfl, hm.i0 ⟨_, rfl, he.i0 ⟨_, _, rfl, rfl, _, rfl, ht.i0 ⟨_, rfl, he.i0 ⟨_, _, rfl, rfl, _, _, rfl, rfl, .inl w1.1, ?_⟩⟩⟩⟩⟩
  refine ⟨_, rfl, hm.i1 ⟨_, rfl, he.i1 ⟨_, _, rfl, rfl, _, rfl, ht.i1 ⟨_, rfl, he.i1 ⟨_, _, rfl, rfl, _, _, rfl, rfl, .inl w1.2, ?_⟩⟩⟩⟩⟩
  refine ⟨_, _, rfl, rfl, ?_⟩
  refine ⟨_, rfl, _, rfl, _, rfl, ve, vm, vt, e, m, t, rfl, he, hm, ht, se, sm, rfl, _, rfl, ite_t (fun h1 => ?_) (fun h1 => ?_)⟩
  · have h2 : ¬ lcross e m t = 0 := by simpa using h1
    unfold chk at k
    rw [decide_eq_true h2, Bool.true_or] at k
    exact k
  · have h2 : lcross e m t = 0 := by simpa using h1
    unfold chk at k
    rw [decide_eq_false (fun q => q h2), Bool.false_or] at k
    exact ⟨_, rfl, _, _, rfl, rfl, k⟩
section
variable {P : Program} {w : World} {K : PySem.W.Frag} {mg : Str → Option Value} {base : Heap}
def spLClear : Sp := fun vs H Q _ => ∃ (x u v t : V) (a b c d : Pt), vs = [x, u, v, t] ∧ IsPt H x a ∧ IsPt H u b ∧ IsPt H v c ∧ IsPt H t d ∧ Sm (2 ^ 62) a ∧ Sm (2 ^ 62) b ∧ Sm (2 ^ 62) c ∧ Sm (2 ^ 62) d ∧ ∀ H', Same H H' → Q (.bl (lClear a b c d)) H'
theorem scLawClear : FnScope ["_law_one", "_law_other", "_law_third", "_law_last", "_law_end", "_law_mine", "_law_spot", "_law_its", "_law_ahead"] ["_law_one", "_law_other", "_law_third", "_law_last"] (defScope s_law_clear) := ⟨rfl, rfl, rfl, by decide +kernel, rfl, by decide +kernel, by decide +kernel⟩
theorem c_law_clear (C_law_cross : Cal P w K mg base 1 "_law_cross" spLX []) (C_law_meet : Cal P w K mg base 3 "_law_meet" spLMeet []) (F : Has K mg "_law_clear" s_law_clear ["_law_one", "_law_other", "_law_third", "_law_last"]) : Cal P w K mg base 4 "_law_clear" spLClear [] := by
  refine F.cal scLawClear (fun vs H Q E h => ?_) (fun f cdv A outer s H vs Q E hr h => ?_)
  · obtain ⟨_, _, _, _, _, _, _, _, rfl, _⟩ := h
    rfl
  · obtain ⟨x, u, v, t, a, b, c, d, rfl, hx, hu, hv, ht, sa, sb, sc, sd, k⟩ := h
    refine ⟨_, (pss_cons (ps_for PassesOwn.never rfl (pi_tup (pe_tup (pa_cons (pe_tup (pa_cons (pv 0) (pa_cons (pv 1) pa_nil))) (pa_cons (pe_tup (pa_cons (pv 1) (pa_cons (pv 0) pa_nil))) pa_nil)))) (pg_tup rfl (pgs_cons (pg_name (i := 4) scLawClear.nd rfl (Or.inl rfl)) (pgs_cons (pg_name (i := 5) scLawClear.nd rfl (Or.inl rfl)) pgs_nil)))
 (pss_one (ps_for PassesOwn.never rfl (pi_tup (pe_tup (pa_cons (pe_tup (pa_cons (pv 2) (pa_cons (pv 3) pa_nil))) (pa_cons (pe_tup (pa_cons (pv 3) (pa_cons (pv 2) pa_nil))) pa_nil)))) (pg_tup rfl (pgs_cons (pg_name (i := 6) scLawClear.nd rfl (Or.inl rfl)) (pgs_cons (pg_name (i := 7) scLawClear.nd rfl (Or.inl rfl)) pgs_nil)))
 (pss_one (ps_if (pt_cmpR (op_eqD hr.units) (pv 4) (pv 6) (nomark _)) (pss_cons (ps_set (i := 8) scLawClear.nd rfl (Or.inl rfl) (pe_op op_add (pe_op op_mul (pe_op op_sub (ixT (pv 5) pe_int) (ixT (pv 4) pe_int)) (pe_op op_sub (ixT (pv 7) pe_int) (ixT (pv 4) pe_int))) (pe_op op_mul (pe_op op_sub (ixT (pv 5) pe_int) (ixT (pv 4) pe_int)) (pe_op op_sub (ixT (pv 7) pe_int) (ixT (pv 4) pe_int)))))
 (pss_one (ps_ret (pe_or (pe_cmpR op_ne (pe_c C_law_cross hr (by decide) rfl (pa_cons (pv 4) (pa_cons (pv 5) (pa_cons (pv 7) pa_nil)))) pe_int (nomark _)) (pe_one (pe_cmpR op_lt (pv 8) pe_int (nomark _))))))) pss_nil)))))
 (pss_one (ps_ret (pe_not (pe_c C_law_meet hr (by decide) rfl (pa_cons (pv 0) (pa_cons (pv 1) (pa_cons (pv 2) (pa_cons (pv 3) pa_nil))))))))), ?_⟩
    refine ⟨_, rfl, _, rfl, by show 2 ≤ sizeLine; decide, fun T1 hT1 => ?_⟩
    have s1 := sameU (o := .tup [x, u]) (Same.refl H) hT1
    refine ⟨_, rfl, _, rfl, by show 2 ≤ sizeLine; decide, fun T2 hT2 => ?_⟩
    have s2 := sameU (o := .tup [u, x]) s1 hT2
    have s2' := sameU (o := .tup [u, x]) (Same.refl _) hT2
    refine ⟨by show 2 ≤ sizeLine; decide, fun T3 hT3 => ?_⟩
    have s3 := sameU (o := .tup [.ref T1, .ref T2]) s2 hT3
    have s3' := sameU (o := .tup [.ref T1, .ref T2]) (Same.refl _) hT3
    have f1 := s3' _ _ (s2' _ _ (upd_same (H := H) (a := T1)))
    have f2 := s3' _ _ (upd_same (a := T2))
    refine ⟨T3, rfl, ⟨_, sqt upd_same⟩, ?_⟩
    have f3 := upd_same (H := upd (upd H T1 (.tup [x, u])) T2 (.tup [u, x])) (a := T3) (o := .tup [.ref T1, .ref T2])
    generalize upd (upd (upd H T1 (.tup [x, u])) T2 (.tup [u, x])) T3 (.tup [.ref T1, .ref T2]) = H3 at s3 f1 f2 f3 ⊢
    refine for_it (walk_tup (xs := [.ref T1, .ref T2])) (fun i σ H' => Same H3 H' ∧ (∃ o4 o5 o6 o7, σ = [some x, some u, some v, some t, o4, o5, o6, o7, none]) ∧ (1 ≤ i → a ≠ c ∧ a ≠ d) ∧ (2 ≤ i → b ≠ c ∧ b ≠ d)) ⟨Same.refl _, ⟨_, _, _, _, rfl⟩, fun h => by omega, fun h => by omega⟩ (fun i σ H' hi p => sqt (p.1 _ _ f3)) (fun i y σ H0 H' hi p Y => ?_) (fun σ H' p => ?_)
    · obtain ⟨rfl, ey⟩ := Y
      obtain ⟨s4, ⟨o4, o5, o6, o7, rfl⟩, na, nb⟩ := p
      have sF : Same H H' := fun b u q => s4 _ _ (s3 b u q)
      have pick : ∃ (Ti : Addr) (ve vm : V) (e m : Pt), y = .ref Ti ∧ H' Ti = some (.tup [ve, vm]) ∧ IsPt H ve e ∧ IsPt H vm m ∧ Sm (2 ^ 62) e ∧ Sm (2 ^ 62) m ∧ (e = c → lClear a b c d = chk e m d) ∧ (e ≠ c → e = d → lClear a b c d = chk e m c) ∧
          (e ≠ c → e ≠ d → (1 ≤ i + 1 → a ≠ c ∧ a ≠ d) ∧ (2 ≤ i + 1 → b ≠ c ∧ b ≠ d)) := by
        match i, ey with
        | 0, ey =>
          cases ey
          refine ⟨T1, x, u, a, b, rfl, s4 _ _ f1, hx, hu, sa, sb, fun h => ?_, fun h1 h => ?_, fun h1 h2 => ⟨fun _ => ⟨h1, h2⟩, fun h => by omega⟩⟩
          · unfold lClear; rw [if_pos h]
          · unfold lClear; rw [if_neg h1, if_pos h]
        | 1, ey =>
          cases ey
          obtain ⟨a1, a2⟩ := na (by decide)
          refine ⟨T2, u, x, b, a, rfl, s4 _ _ f2, hu, hx, sb, sa, fun h => ?_, fun h1 h => ?_, fun h1 h2 => ⟨fun _ => ⟨a1, a2⟩, fun _ => ⟨h1, h2⟩⟩⟩
          · unfold lClear; rw [if_neg a1, if_neg a2, if_pos h]
          · unfold lClear; rw [if_neg a1, if_neg a2, if_neg h1, if_pos h]
      obtain ⟨Ti, ve, vm, e, m, rfl, eTi, he, hm, se, sm, k1, k2, k3⟩ := pick
      refine ⟨Ti, _, rfl, sqt eTi, rfl, _, _, rfl, ?_⟩
      refine ⟨_, _, rfl, ?_⟩
      refine ⟨rfl, ?_⟩
      refine ⟨_, rfl, _, rfl, by show 2 ≤ sizeLine; decide, fun T4 hT4 => ?_⟩
      have q1 := sameU (o := .tup [v, t]) (Same.refl H') hT4
      refine ⟨_, rfl, _, rfl, by show 2 ≤ sizeLine; decide, fun T5 hT5 => ?_⟩
      have q2 := sameU (o := .tup [t, v]) q1 hT5
      have q2' := sameU (o := .tup [t, v]) (Same.refl _) hT5
      refine ⟨by show 2 ≤ sizeLine; decide, fun T6 hT6 => ?_⟩
      have q3 := sameU (o := .tup [.ref T4, .ref T5]) q2 hT6
      have q3' := sameU (o := .tup [.ref T4, .ref T5]) (Same.refl _) hT6
      have g1 := q3' _ _ (q2' _ _ (upd_same (H := H') (a := T4)))
      have g2 := q3' _ _ (upd_same (a := T5))
      refine ⟨T6, rfl, ⟨_, sqt upd_same⟩, ?_⟩
      have g3 := upd_same (H := upd (upd H' T4 (.tup [v, t])) T5 (.tup [t, v])) (a := T6) (o := .tup [.ref T4, .ref T5])
      generalize upd (upd (upd H' T4 (.tup [v, t])) T5 (.tup [t, v])) T6 (.tup [.ref T4, .ref T5]) = H6 at q3 g1 g2 g3 ⊢
      refine for_it (walk_tup (xs := [.ref T4, .ref T5])) (fun j σ H'' => Same H6 H'' ∧ (∃ o6 o7, σ = [some x, some u, some v, some t, some ve, some vm, o6, o7, none]) ∧ (1 ≤ j → e ≠ c) ∧ (2 ≤ j → e ≠ d)) ⟨Same.refl _, ⟨_, _, rfl⟩, fun h => by omega, fun h => by omega⟩ (fun i σ H' hi p => sqt (p.1 _ _ g3)) (fun j y σ H0 H'' hj p Y => ?_) (fun σ H'' p => ?_)
      · obtain ⟨rfl, ey2⟩ := Y
        obtain ⟨s5, ⟨p6, p7, rfl⟩, nc, nd⟩ := p
        have sG : Same H H'' := fun b u q => s5 _ _ (q3 _ _ (sF b u q))
        match j, ey2 with
        | 0, ey2 =>
          cases ey2
          refine ⟨T4, _, rfl, sqt (s5 _ _ g1), rfl, _, _, rfl, ?_⟩
          refine ⟨_, _, rfl, ?_⟩
          refine ⟨rfl, ?_⟩
          refine clrB (K := K) (he.same sG) (hm.same sG) (hv.same sG) (ht.same sG) se sm (fun h => ?_) (fun h => ⟨s5, ⟨_, _, rfl⟩, fun _ => h, fun h => by omega⟩)
          rw [← k1 h]
          exact k H'' sG
        | 1, ey2 =>
          cases ey2
          refine ⟨T5, _, rfl, sqt (s5 _ _ g2), rfl, _, _, rfl, ?_⟩
          refine ⟨_, _, rfl, ?_⟩
          refine ⟨rfl, ?_⟩
          have n1 := nc (by decide)
          refine clrB (K := K) (he.same sG) (hm.same sG) (ht.same sG) (hv.same sG) se sm (fun h => ?_) (fun h => ⟨s5, ⟨_, _, rfl⟩, fun _ => n1, fun _ => h⟩)
          rw [← k2 n1 h]
          exact k H'' sG
      · obtain ⟨s5, ⟨p6, p7, rfl⟩, nc, nd⟩ := p
        have n1 := nc (by show 1 ≤ 2; decide)
        have n2 := nd (by show 2 ≤ 2; decide)
        exact ⟨fun b u q => s5 _ _ (q3 _ _ (s4 b u q)), ⟨_, _, _, _, rfl⟩, (k3 n1 n2).1, (k3 n1 n2).2⟩
    · obtain ⟨s4, ⟨o4, o5, o6, o7, rfl⟩, na, nb⟩ := p
      obtain ⟨a1, a2⟩ := na (by show 1 ≤ 2; decide)
      obtain ⟨b1, b2⟩ := nb (by show 2 ≤ 2; decide)
      have sF : Same H H' := fun b u q => s4 _ _ (s3 b u q)
      refine ⟨_, rfl, _, rfl, _, rfl, _, rfl, x, u, v, t, a, b, c, d, rfl, hx.same sF, hu.same sF, hv.same sF, ht.same sF, sa, sb, sc, sd, fun H5 s5 => ⟨_, rfl, ?_⟩⟩
      have := k H5 (fun b u q => s5 _ _ (sF b u q))
      unfold lClear at this
      rw [if_neg a1, if_neg a2, if_neg b1, if_neg b2] at this
      exact this
end
end Bay
namespace Bay
open PySem PySem.Spec PyProof.Rows L2
open C8 (Cal pe_c Mak pe_mk)
theorem none_left {α : Type} (p : α → Bool) : ∀ es : List α, (((es.filter fun e => !p e).map fun _ => (1 : Int)).map PyData.int).isEmpty = es.all p
  | [] => rfl
  | a :: t => by
    rw [List.all_cons, ← none_left p t, List.filter_cons]
    cases p a <;> simp
section
variable {P : Program} {w : World} {K : PySem.W.Frag} {mg : Str → Option Value} {base : Heap}
def spPick : Sp := fun vs H Q _ => ∃ (O L : Addr) (b : Int) (xs : List V), vs = [.ref O, .ref L] ∧ Orch H O b ∧ b < 2 ^ 20 ∧ H L = some (.lst xs) ∧ L ≠ O ∧ 0 < xs.length ∧ xs.length < 1000 ∧ ∀ H' x, x ∈ xs → Bx O H H' → Orch H' O (b + 1) → Q x H'
theorem scLawPick : FnScope ["_law_orchard_here", "_law_some"] ["_law_orchard_here", "_law_some"] (defScope s_law_pick) := ⟨rfl, rfl, rfl, by decide +kernel, rfl, by decide +kernel, by decide +kernel⟩
theorem c_law_pick (B : Bn mg) (C_law_prune : Cal P w K mg base 1 "_law_prune" spPrune []) (F : Has K mg "_law_pick" s_law_pick ["_law_orchard_here", "_law_some"]) : Cal P w K mg base 2 "_law_pick" spPick [] := by
  refine F.cal scLawPick (fun vs H Q E h => ?_) (fun f cdv A outer s H vs Q E hr h => ?_)
  · obtain ⟨_, _, _, _, rfl, _⟩ := h
    rfl
  · obtain ⟨O, L, b, xs, rfl, hO, hb, hL, ne, h0, h1, k⟩ := h
    refine ⟨_, (pss_one (ps_ret (ixL (pv 1) (pe_c C_law_prune hr (by decide) rfl (pa_cons (pv 0) (pa_cons (pe_callB call_len_seq (by rfl) B.len (by decide +kernel) (pa_cons (pv 1) pa_nil)) pa_nil)))))), ?_⟩
    refine ⟨_, rfl, _, rfl, _, rfl, L, xs, rfl, .inl (sql hL), ?_⟩
    refine ⟨O, (xs.length : Nat), b, rfl, hO, hb, by omega, by omega, fun H' v v0 v1 bx o2 => ?_⟩
    have hv : v.toNat < xs.length := by omega
    have ea := atI_nat (List.getElem?_eq_getElem hv)
    rw [Int.toNat_of_nonneg v0] at ea
    exact ⟨L, xs, v, _, rfl, rfl, sql (bx _ _ ne hL), ea, k H' _ (List.getElem_mem hv) bx o2⟩
def spAreClr : Sp := fun vs H Q _ => ∃ (s r : Addr) (vx vy : V) (p q : Pt) (us : List V) (es : List (Pt × Pt)), vs = [.ref s, .ref r] ∧ H s = some (.tup [vx, vy]) ∧ IsPt H vx p ∧ IsPt H vy q ∧ H r = some (.lst us) ∧ Paired (Pair2 H) us es ∧ es.length ≤ 1000 ∧ Sm (2 ^ 62) p ∧ Sm (2 ^ 62) q ∧
  (∀ e ∈ es, Sm (2 ^ 62) e.1 ∧ Sm (2 ^ 62) e.2) ∧ ∀ H', Same H H' → Q (.bl (es.all fun e => lClear p q e.1 e.2)) H'
theorem scLawAreClear : FnScope ["_law_side", "_law_rest", "_law_third", "_law_last"] ["_law_side", "_law_rest"] (defScope s_law_are_clear) := ⟨rfl, rfl, rfl, by decide +kernel, rfl, by decide +kernel, by decide +kernel⟩
theorem c_law_are_clear (C_law_clear : Cal P w K mg base 4 "_law_clear" spLClear []) (F : Has K mg "_law_are_clear" s_law_are_clear ["_law_side", "_law_rest"]) : Cal P w K mg base 5 "_law_are_clear" spAreClr [] := by
  refine F.cal scLawAreClear (fun vs H Q E h => ?_) (fun f cdv A outer s H vs Q E hr h => ?_)
  · obtain ⟨_, _, _, _, _, _, _, _, rfl, _⟩ := h
    rfl
  · obtain ⟨sa, r, vx, vy, p, q, us, es, rfl, eS, hx, hy, eR, pr, h1, sp, sq, se, k⟩ := h
    refine ⟨_, (pss_one (ps_ret (pe_cmpR (op_eqD hr.units) (pe_lc (own := [("_law_third", 2), ("_law_last", 3)]) rfl scLawAreClear.nd (pi_list (pv 1)) (blkOk_by (N := ["_law_side", "_law_rest", "_law_third", "_law_last"]) (sc := defScope s_law_are_clear) (by decide +kernel)) (fun _ _ _ _ _ => (tgk K 2 rfl (pgs_cons (pg_name (i := 2) scLawAreClear.nd rfl (Or.inl rfl)) (pgs_cons (pg_name (i := 3) scLawAreClear.nd rfl (Or.inl rfl)) pgs_nil)))) (fun _ _ _ _ _ => pts_one (pt_not (pt_val (pe_c C_law_clear hr (by decide) rfl (pa_cons (ixk K (pv 0) pe_int) (pa_cons (ixk K (pv 0) pe_int) (pa_cons (pv 2) (pa_cons (pv 3) pa_nil)))))))) (fun _ _ _ _ _ => pe_int)) (pe_lst pa_nil) (nomark _)))), ?_⟩
    refine ⟨_, rfl, r, rfl, ⟨_, sql eR⟩, fun D hD => ?_⟩
    have hl : es.length = us.length := pr.length.symm
    refine lc_gen (walk_list (xs := us)) es (fun e => !lClear p q e.1 e.2) (fun _ => (1 : Int)) IsI hl (by rw [← hl]; exact Nat.le_trans h1 (by decide)) isI_kt hD (fun H s => sql (s _ _ eR)) (fun i e y H0 H' Ny Ns ee s Y hy2 hn => ?_) (fun ys H2 s e pp => ?_)
    · obtain ⟨rfl, ey⟩ := Y
      obtain ⟨y2, ey2, rr⟩ := Paired.at2 pr ee
      rw [ey] at ey2
      cases ey2
      obtain ⟨T, u, v, rfl, hT, hu, hv⟩ := rr
      obtain ⟨se1, se2⟩ := se e (mem_at ee)
      refine ⟨T, _, rfl, sqt (s _ _ hT), rfl, _, _, rfl, ?_⟩
      refine ⟨_, _, rfl, ?_⟩
      refine ⟨rfl, rfl, ?_⟩
      refine ⟨_, rfl, sa, _, _, _, rfl, rfl, sqt (s _ _ eS), rfl, ?_⟩
      refine ⟨_, rfl, sa, _, _, _, rfl, rfl, sqt (s _ _ eS), rfl, ?_⟩
      refine ⟨_, rfl, _, rfl, vx, vy, u, v, p, q, e.1, e.2, rfl, hx.same s, hy.same s, hu.same s, hv.same s, sp, sq, se1, se2, fun H5 s5 => ?_⟩
      exact ⟨_, rfl, ite_t (fun h => hy2 h _ _ s5 rfl) (fun h => hn h _ s5)⟩
    · refine ⟨by decide, fun L hL => ?_⟩
      have s2 := sameU (o := .lst []) s hL
      have e2 := (sameU (o := .lst []) (Same.refl H2) hL) _ _ e
      rw [ints_of pp] at e2
      refine ⟨.list (((es.filter fun e => !lClear p q e.1 e.2).map fun _ => (1 : Int)).map PyData.int), .list [], .lst (sql e2) (dp_ints _), .lst (sql upd_same) .nil, shp_ints _, rfl, ?_⟩
      rw [eqv_nil]
      rw [none_left (fun e : Pt × Pt => lClear p q e.1 e.2)]
      exact k _ s2
def spLeft : Sp := fun vs H Q _ => ∃ (a : Addr) (us : List V) (ps : List Pt), vs = [.ref a] ∧ H a = some (.lst us) ∧ Pts H us ps ∧ 0 < ps.length ∧ ps.length ≤ 1000 ∧ (∀ p ∈ ps, Sm (2 ^ 62) p) ∧ ∀ H', Same H H' → Q (.bl (decide (0 < areaL ps))) H'
theorem scLawIsLeft : FnScope ["_law_corners", "_law_one", "_law_other"] ["_law_corners"] (defScope s_law_is_left) := ⟨rfl, rfl, rfl, by decide +kernel, rfl, by decide +kernel, by decide +kernel⟩
theorem c_law_is_left (B : Bn mg) (F : Has K mg "_law_is_left" s_law_is_left ["_law_corners"]) : Cal P w K mg base 1 "_law_is_left" spLeft [] := by
  refine F.cal scLawIsLeft (fun vs H Q E h => ?_) (fun f cdv A outer s H vs Q E hr h => ?_)
  · obtain ⟨_, _, _, rfl, _⟩ := h
    rfl
  · obtain ⟨a, us, ps, rfl, ha, hp, h0, h1, sm, k⟩ := h
    have hlu : us.length = ps.length := hp.length
    refine ⟨_, (pss_one (ps_ret (pe_cmpR op_gt (pe_callB (cr_sum rfl) (by rfl) B.sum (by decide +kernel) (pa_cons (pe_lc (own := [("_law_one", 1), ("_law_other", 2)]) rfl scLawIsLeft.nd (pi_zipM false false (by rfl) B.zip (pa_cons (pv 0) (pa_cons (pe_op op_cat (pe_slice sl_list (pv 0) (po_some pe_int) po_none) (pe_slice sl_list (pv 0) po_none (po_some pe_int))) pa_nil))) (blkOk_by (N := ["_law_corners", "_law_one", "_law_other"]) (sc := defScope s_law_is_left) (by decide +kernel)) (fun _ _ _ _ _ => (tgk K 2 rfl (pgs_cons (pg_name (i := 1) scLawIsLeft.nd rfl (Or.inl rfl)) (pgs_cons (pg_name (i := 2) scLawIsLeft.nd rfl (Or.inl rfl)) pgs_nil)))) (fun _ _ _ _ _ => pts_nil) (fun _ _ _ _ _ => (pe_op op_sub (pe_op op_mul (ixk K (pv 1) pe_int) (ixk K (pv 2) pe_int)) (pe_op op_mul (ixk K (pv 2) pe_int) (ixk K (pv 1) pe_int))))) pa_nil)) pe_int (nomark _)))), ?_⟩
    refine ⟨_, rfl, _, rfl, _, rfl, a, us, rfl, sql ha, fun p1 hp1 => ?_⟩
    have s1 := sameU (o := .lst (cutV us (some 1) none)) (Same.refl H) hp1
    refine ⟨_, rfl, _, rfl, a, us, rfl, sql (s1 _ _ ha), fun p2 hp2 => ?_⟩
    have s2 := sameU (o := .lst (cutV us none (some 1))) s1 hp2
    have s2' := sameU (o := .lst (cutV us none (some 1))) (Same.refl _) hp2
    have c1 : cutV us (some 1) none = us.drop 1 := cut1 (by omega)
    have c2 : cutV us none (some 1) = us.take 1 := cutT 1
    have ln : (us.drop 1 ++ us.take 1).length = us.length := by simp; omega
    refine ⟨p1, p2, _, _, rfl, rfl, s2' _ _ upd_same, upd_same, ?_, fun p3 hp3 => ?_⟩
    · rw [← List.length_append, c1, c2, ln, hlu]
      exact Nat.le_trans h1 (by decide)
    have s3 := sameU (o := .lst (cutV us (some 1) none ++ cutV us none (some 1))) s2 hp3
    have e3 := upd_same (H := upd (upd H p1 (.lst (cutV us (some 1) none))) p2 (.lst (cutV us none (some 1)))) (a := p3) (o := .lst (cutV us (some 1) none ++ cutV us none (some 1)))
    generalize upd (upd (upd H p1 (.lst (cutV us (some 1) none))) p2 (.lst (cutV us none (some 1)))) p3 (.lst (cutV us (some 1) none ++ cutV us none (some 1))) = H3 at s3 e3 ⊢
    rw [c1, c2] at e3
    refine ⟨a, p3, us, us.drop 1 ++ us.take 1, rfl, sql (s3 _ _ ha), sql e3, fun D hD => ?_⟩
    have p3' : Pts H3 us ps := Paired.kt pt_kt (same_kt s3) hp
    have p4 : Pts H3 (us.drop 1 ++ us.take 1) (ps.drop 1 ++ ps.take 1) := Paired.app (Paired.drop 1 p3') (Paired.take 1 p3')
    refine lc_gen (walk_zipM (b1 := false) (b2 := false) (xs := us) (ys := us.drop 1 ++ us.take 1) ln.symm) (cyc ps) (fun _ => true) (fun e => cr e.1 e.2) IsI (by rw [cyc_n, hlu]) (by rw [hlu]; exact Nat.le_trans h1 (by decide)) isI_kt hD (fun H s => ⟨sql (s _ _ (s3 _ _ ha)), sql (s _ _ e3)⟩) (fun i e y H0 H' Ny Ns ee s Y hy _ => ?_) (fun ys H4 s4 e4 p5 => ?_)
    · obtain ⟨T, x, z, rfl, hT, rfl, ex, ez⟩ := Y
      have m := mem_cyc (mem_at ee)
      rw [cyc_zip] at ee
      obtain ⟨g1, g2⟩ := zip_get ee
      obtain ⟨q1, eq1, r1⟩ := Paired.at p3' ex
      obtain ⟨q2, eq2, r2⟩ := Paired.at p4 ez
      rw [g1] at eq1
      rw [g2] at eq2
      cases eq1
      cases eq2
      have s5 := sameU (o := .tup [x, z]) s hT
      have r1 := r1.same s5
      have r2 := r2.same s5
      refine ⟨T, _, rfl, sqt upd_same, rfl, _, _, rfl, ?_⟩
      refine ⟨_, _, rfl, ?_⟩
      refine ⟨rfl, rfl, ?_⟩
      have b1 := (sm _ m.1).mono (c := 2 ^ 64) (by decide)
      have b2 := (sm _ m.2).mono (c := 2 ^ 64) (by decide)
      refine ⟨_, rfl, r1.i0 ⟨_, rfl, r2.i1 ⟨_, _, rfl, rfl, .inl b1.1, ?_⟩⟩⟩
      refine ⟨_, rfl, r2.i0 ⟨_, rfl, r1.i1 ⟨_, _, rfl, rfl, .inl b2.1, ?_⟩⟩⟩
      refine ⟨_, _, rfl, rfl, hy rfl _ _ (sameU (Same.refl _) hT) ?_⟩
      show V.int _ = V.int _
      unfold cr
      rw [Int.mul_comm e.2.1]
    · rw [filter_yes] at p5
      refine ⟨D, (cyc ps).map fun e => cr e.1 e.2, rfl, sql (by rw [e4, ints_of p5]), _, _, rfl, rfl, ?_⟩
      rw [sum_tsum]
      exact k H4 (fun b u q => s4 _ _ (s3 _ _ q))
end
end Bay
namespace Bay
open PySem PySem.Spec PyProof.Rows L2
open C8 (Cal pe_c Mak pe_mk)
theorem paired_rev {α β : Type} {R : α → β → Prop} {xs : List α} {ys : List β} (h : Paired R xs ys) : Paired R xs.reverse ys.reverse := by
  induction h with
  | nil => exact .nil
  | cons r t ih =>
    rw [List.reverse_cons, List.reverse_cons]
    exact Paired.snoc ih r
theorem Orch.ne {H : Hp} {O T : Addr} {b : Int} {xs : List V} (h : Orch H O b) (e : H T = some (.tup xs)) : T ≠ O := fun q => by
  obtain ⟨c, cs, t, l, h1, _⟩ := h.ex
  rw [q, h1] at e
  cases e
theorem Orch.neN {H : Hp} {O T : Addr} {b : Int} (h : Orch H O b) (e : H T = none) : T ≠ O := fun q => by
  obtain ⟨c, cs, t, l, h1, _⟩ := h.ex
  rw [q, h1] at e
  cases e
theorem Bx.ktO {H H' : Hp} {O : Addr} {b : Int} (s : Bx O H H') (h : Orch H O b) : Kt H H' := fun c xs e => s c _ (h.ne e) e
theorem Bx.trans {x : Addr} {H H1 H2 : Hp} (a : Bx x H H1) (b : Bx x H1 H2) : Bx x H H2 := fun c o n h => b c o n (a c o n h)
theorem Bx.of {x : Addr} {H H1 : Hp} (a : Same H H1) : Bx x H H1 := fun c o _ h => a c o h
theorem shp_pts (ps : List Pt) : SeqAt.shaped (.list (ps.map dPt)) = true := shp_list fun d hd => by
  obtain ⟨q, _, rfl⟩ := List.mem_map.mp hd
  exact ⟨rfl, by show 1 ≤ 8; decide⟩
theorem any_pt (P : Pt) (ps : List Pt) : ((ps.map dPt).any fun z => PyData.eqv z (dPt P)) = decide (P ∈ ps) := by
  induction ps with
  | nil => rfl
  | cons a t ih =>
    rw [List.map_cons, List.any_cons, ih, eqv_pt]
    by_cases e : a = P
    · subst e; simp
    · have : ¬ P = a := fun q => e q.symm
      simp [e, this]
section
variable {P : Program} {w : World} {K : PySem.W.Frag} {mg : Str → Option Value} {base : Heap}
/-- a written list of three points -/
theorem tri_lit {σ : L2.St} {H : Hp} {Q : V → Hp → Prop} {a b c d e f : Int} (k : ∀ H' L us, Same H H' → H' L = some (.lst us) → Pts H' us [(a, b), (c, d), (e, f)] → H L = none → Q (.ref L) H') :
    tLst (tCons (tTup (tCons (tC (.int a)) (tCons (tC (.int b)) tNil))) (tCons (tTup (tCons (tC (.int c)) (tCons (tC (.int d)) tNil))) (tCons (tTup (tCons (tC (.int e)) (tCons (tC (.int f)) tNil))) tNil))) σ H Q := by
  refine ⟨by show 2 ≤ sizeLine; decide, fun T1 h1 => ⟨by show 2 ≤ sizeLine; decide, fun T2 h2 => ⟨by show 2 ≤ sizeLine; decide, fun T3 h3 => ⟨by show 3 ≤ sizeLine; decide, fun L hL => ?_⟩⟩⟩⟩
  have s1 := sameU (o := .tup [.int a, .int b]) (Same.refl H) h1
  have s2 := sameU (o := .tup [.int c, .int d]) s1 h2
  have s3 := sameU (o := .tup [.int e, .int f]) s2 h3
  have s4 := sameU (o := .lst [.ref T1, .ref T2, .ref T3]) s3 hL
  have t2 := sameU (o := .tup [.int c, .int d]) (Same.refl _) h2
  have t3 := sameU (o := .tup [.int e, .int f]) (Same.refl _) h3
  have t4 := sameU (o := .lst [.ref T1, .ref T2, .ref T3]) (Same.refl _) hL
  refine k _ L _ s4 upd_same (.cons ⟨T1, rfl, t4 _ _ (t3 _ _ (t2 _ _ upd_same))⟩ (.cons ⟨T2, rfl, t4 _ _ (t3 _ _ upd_same)⟩ (.cons ⟨T3, rfl, t4 _ _ upd_same⟩ .nil))) ?_
  cases q : H L with
  | none => rfl
  | some o => rw [s3 _ _ q] at hL; cases hL
def spGrown : Sp := fun vs H Q _ => ∃ (O : Addr) (m b : Int), vs = [.ref O, .int m] ∧ Orch H O b ∧ b < 2 ^ 19 ∧ 0 ≤ m ∧ m ≤ 18 ∧ ∀ H' L us ps, Bx O H H' → Orch H' O (b + 55) → L ≠ O → H' L = some (.lst us) → Pts H' us ps → Fen ps → Bd 8 ps → ps.length ≤ 21 → Q (.ref L) H'
theorem scLawGrown : FnScope ["_law_orchard_here", "_law_most", "_law_corners", "_law_turn", "_law_ring", "_law_rest", "_law_fresh", "_law_is_clear", "_law_at", "_law_point"] ["_law_orchard_here", "_law_most"] (defScope s_law_grown) := ⟨rfl, rfl, rfl, by decide +kernel, rfl, by decide +kernel, by decide +kernel⟩
theorem c_law_grown (B : Bn mg) (C_law_prune : Cal P w K mg base 1 "_law_prune" spPrune []) (C_law_pick : Cal P w K mg base 2 "_law_pick" spPick []) (C_law_clear : Cal P w K mg base 4 "_law_clear" spLClear []) (C_law_are_clear : Cal P w K mg base 5 "_law_are_clear" spAreClr []) (C_law_is_left : Cal P w K mg base 1 "_law_is_left" spLeft []) (F : Has K mg "_law_grown" s_law_grown ["_law_orchard_here", "_law_most"]) : Cal P w K mg base 6 "_law_grown" spGrown [] := by
  refine F.cal scLawGrown (fun vs H Q E h => ?_) (fun f cdv A outer s H vs Q E hr h => ?_)
  · obtain ⟨_, _, _, rfl, _⟩ := h
    rfl
  · obtain ⟨O, m, b, rfl, hO, hb, m0, m1, k⟩ := h
    refine ⟨_, (pss_cons (ps_set (i := 2) scLawGrown.nd rfl (Or.inl rfl) (pe_c C_law_pick hr (by decide) rfl (pa_cons (pv 0) (pa_cons (pe_lst (pa_cons (pe_lst (pa_cons (pe_tup (pa_cons pe_int (pa_cons pe_int pa_nil))) (pa_cons (pe_tup (pa_cons pe_int (pa_cons pe_int pa_nil))) (pa_cons (pe_tup (pa_cons pe_int (pa_cons pe_int pa_nil))) pa_nil)))) (pa_cons (pe_lst (pa_cons (pe_tup (pa_cons pe_int (pa_cons pe_int pa_nil))) (pa_cons (pe_tup (pa_cons pe_int (pa_cons pe_int pa_nil))) (pa_cons (pe_tup (pa_cons pe_int (pa_cons pe_int pa_nil))) pa_nil)))) (pa_cons (pe_lst (pa_cons (pe_tup (pa_cons pe_int (pa_cons pe_int pa_nil))) (pa_cons (pe_tup (pa_cons pe_int (pa_cons pe_int pa_nil))) (pa_cons (pe_tup (pa_cons pe_int (pa_cons pe_int pa_nil))) pa_nil)))) pa_nil)))) pa_nil))))
 (pss_cons (ps_for PassesOwn.never rfl (pi_range1 (by rfl) B.range (pa_cons (pv 1) pa_nil)) (pg_name (i := 3) scLawGrown.nd rfl (Or.inl rfl))
 (pss_cons (ps_par (i := 8) (j := 9) rfl scLawGrown.nd rfl rfl (by decide) rfl rfl (pa_cons (pe_c C_law_prune hr (by decide) rfl (pa_cons (pv 0) (pa_cons (pe_callB call_len_seq (by rfl) B.len (by decide +kernel) (pa_cons (pv 2) pa_nil)) pa_nil))) (pa_cons (pe_tup (pa_cons (pe_op op_sub (pe_c C_law_prune hr (by decide) rfl (pa_cons (pv 0) (pa_cons pe_int pa_nil))) pe_int) (pa_cons (pe_op op_sub (pe_c C_law_prune hr (by decide) rfl (pa_cons (pv 0) (pa_cons pe_int pa_nil))) pe_int) pa_nil))) pa_nil)) (by rfl))
 (pss_cons (ps_set (i := 4) scLawGrown.nd rfl (Or.inl rfl) (pe_op op_cat (pe_slice sl_list (pv 2) (po_some (pv 8)) po_none) (pe_slice sl_list (pv 2) po_none (po_some (pv 8)))))
 (pss_cons (ps_set (i := 5) scLawGrown.nd rfl (Or.inl rfl) (pe_listZip rfl (pa_cons (pe_slice sl_list (pv 4) (po_some pe_int) po_none) (pa_cons (pe_op op_cat (pe_slice sl_list (pv 4) (po_some pe_int) po_none) (pe_slice sl_list (pv 4) po_none (po_some pe_int))) pa_nil)) (by rfl) B.list (by rfl) B.zip))
 (pss_cons (ps_set (i := 6) scLawGrown.nd rfl (Or.inl rfl) (pe_lst (pa_cons (pe_tup (pa_cons (ixL (pv 4) pe_int) (pa_cons (pv 9) pa_nil))) (pa_cons (pe_tup (pa_cons (pv 9) (pa_cons (ixL (pv 4) pe_int) pa_nil))) pa_nil))))
 (pss_cons (ps_set (i := 7) scLawGrown.nd rfl (Or.inl rfl) (pe_and (pe_cmpR (op_notInD hr.units65) (pv 9) (pv 2) (by rfl)) (pe_one (pe_c C_law_clear hr (by decide) rfl (pa_cons (ixL (pv 4) pe_int) (pa_cons (pv 9) (pa_cons (pv 9) (pa_cons (ixL (pv 4) pe_int) pa_nil))))))))
 (pss_one (ps_if (PW.pt (pw_and (pt_val (pv 7)) (pw_and (pt_val (pe_c C_law_are_clear hr (by decide) rfl (pa_cons (ixL (pv 6) pe_int) (pa_cons (pv 5) pa_nil)))) (pw_and1 (pt_val (pe_c C_law_are_clear hr (by decide) rfl (pa_cons (ixL (pv 6) pe_int) (pa_cons (pv 5) pa_nil)))))))) (pss_one (ps_set (i := 2) scLawGrown.nd rfl (Or.inl rfl) (pe_op op_cat (pe_op op_cat (pe_slice sl_list (pv 2) po_none (po_some (pe_op op_add (pv 8) pe_int))) (pe_lst (pa_cons (pv 9) pa_nil))) (pe_slice sl_list (pv 2) (po_some (pe_op op_add (pv 8) pe_int)) po_none)))) pss_nil))))))))
 (pss_one (ps_ret (pe_ifExp (pt_val (pe_c C_law_is_left hr (by decide) rfl (pa_cons (pv 2) pa_nil))) (pv 2) (pe_revL (pv 2))))))), ?_⟩
    refine ⟨_, rfl, ?_⟩
    refine tCons_i (tLst_i (tCons_i ?_))
    refine tri_lit fun Ha La ua sa ea pa na => ?_
    refine tCons_i ?_
    refine tri_lit fun Hb Lb ub sb eb pb nb => ?_
    refine tCons_i ?_
    refine tri_lit fun Hc Lc uc sc ec pc nc => ?_
    refine ⟨by show 3 ≤ sizeLine; decide, fun L0 h0 => ?_⟩
    have sd0 := sameU (o := .lst [.ref La, .ref Lb, .ref Lc]) (Same.refl Hc) h0
    have sH : Same H (upd Hc L0 (.lst [.ref La, .ref Lb, .ref Lc])) := fun b u q => sd0 _ _ (sc _ _ (sb _ _ (sa _ _ q)))
    have nO : ∀ {H' : Hp} {T : Addr}, Same H H' → H' T = none → T ≠ O := fun s h => (hO.same s).neN h
    have n1 : La ≠ O := hO.neN na
    have n2 : Lb ≠ O := (hO.same sa).neN nb
    have n3 : Lc ≠ O := (hO.same (fun b u q => sb _ _ (sa _ _ q))).neN nc
    have e1 := sd0 _ _ (sc _ _ (sb _ _ ea))
    have e2 := sd0 _ _ (sc _ _ eb)
    have e3 := sd0 _ _ ec
    have p1 : Pts (upd Hc L0 (.lst [.ref La, .ref Lb, .ref Lc])) ua [(0, 0), (6, 0), (1, 5)] := Paired.kt pt_kt (same_kt (fun b u q => sd0 _ _ (sc _ _ (sb _ _ q)))) pa
    have p2 : Pts (upd Hc L0 (.lst [.ref La, .ref Lb, .ref Lc])) ub [(0, 0), (7, 2), (2, 6)] := Paired.kt pt_kt (same_kt (fun b u q => sd0 _ _ (sc _ _ q))) pb
    have p3 : Pts (upd Hc L0 (.lst [.ref La, .ref Lb, .ref Lc])) uc [(1, 0), (5, 1), (0, 4)] := Paired.kt pt_kt (same_kt sd0) pc
    refine ⟨O, L0, b, [.ref La, .ref Lb, .ref Lc], rfl, hO.same sH, by omega, upd_same, nO (fun b u q => sc _ _ (sb _ _ (sa _ _ q))) h0, by show 0 < 3; decide, by show 3 < 1000; decide, fun H1 x hx bx o1 => ?_⟩
    have bH : Bx O H H1 := (Bx.of sH).trans bx
    have kt1 := bx.ktO (hO.same sH)
    obtain ⟨Lx, ux, px, rfl, nx, ex, ppx, inx⟩ : ∃ Lx ux px, x = .ref Lx ∧ Lx ≠ O ∧ H1 Lx = some (.lst ux) ∧ Pts H1 ux px ∧ px ∈ triB := by
      rcases List.mem_cons.mp hx with q | hx
      · exact ⟨La, ua, _, q, n1, bx _ _ n1 e1, Paired.kt pt_kt kt1 p1, .head _⟩
      rcases List.mem_cons.mp hx with q | hx
      · exact ⟨Lb, ub, _, q, n2, bx _ _ n2 e2, Paired.kt pt_kt kt1 p2, .tail _ (.head _)⟩
      rcases List.mem_cons.mp hx with q | hx
      · exact ⟨Lc, uc, _, q, n3, bx _ _ n3 e3, Paired.kt pt_kt kt1 p3, .tail _ (.tail _ (.head _))⟩
      · cases hx
    obtain ⟨fx, lx, bdx⟩ := tri_fen px inx
    refine ⟨_, rfl, m, rfl, by omega, by omega, ?_⟩
    refine for_it (walk_r0 _) (fun i σ H' => Bx O H H' ∧ Orch H' O (b + 1 + 3 * i) ∧ ∃ L us ps o3 o4 o5 o6 o7 o8 o9, H' L = some (.lst us) ∧ L ≠ O ∧ Pts H' us ps ∧ Simple ps ∧ Bd 8 ps ∧ 3 ≤ ps.length ∧ ps.length ≤ 3 + i ∧ σ = [some (.ref O), some (.int m), some (.ref L), o3, o4, o5, o6, o7, o8, o9]) ⟨bH, by simpa using o1, Lx, ux, px, _, _, _, _, _, _, _, ex, nx, ppx, fx.s, bdx, by omega, by omega, rfl⟩ (fun _ _ _ _ _ => trivial) (fun i y σ H0 H' hi p Y => ?_) (fun σ H' p => ?_)
    · obtain ⟨rfl, rfl⟩ := Y
      obtain ⟨bxH, oH, L, us, ps, o3, o4, o5, o6, o7, o8, o9, eL, nL, pp, smp, bd, l3, l4, rfl⟩ := p
      have hlu : us.length = ps.length := pp.length
      have hi2 : i < 18 := by omega
      refine ⟨_, rfl, _, rfl, L, us, rfl, .inl (sql eL), ?_⟩
      refine ⟨O, (us.length : Nat), _, rfl, oH, by omega, by omega, by omega, fun H1 at_ a0 a1 bx1 oo1 => ?_⟩
      refine ⟨_, rfl, O, 9, _, rfl, oo1, by omega, by decide, by decide, fun H2 u u0 u1 bx2 oo2 => ?_⟩
      refine ⟨_, _, rfl, rfl, ?_⟩
      refine ⟨_, rfl, O, 9, _, rfl, oo2, by omega, by decide, by decide, fun H3 v v0 v1 bx3 oo3 => ?_⟩
      refine ⟨_, _, rfl, rfl, by show 2 ≤ sizeLine; decide, fun T hT => ?_⟩
      have bx13 : Bx O H' H3 := (bx1.trans bx2).trans bx3
      have kt13 : Kt H' H3 := bx13.ktO oH
      have s4 := sameU (o := .tup [.int (u - 1), .int (v - 1)]) (Same.refl H3) hT
      have eT : (upd H3 T (.tup [.int (u - 1), .int (v - 1)])) T = some (.tup [.int (u - 1), .int (v - 1)]) := upd_same
      have bx4 : Bx O H (upd H3 T (.tup [.int (u - 1), .int (v - 1)])) := (bxH.trans bx13).same s4
      have oo4 := oo3.same s4
      have eL4 := s4 _ _ (bx13 _ _ nL eL)
      have pp4 : Pts (upd H3 T (.tup [.int (u - 1), .int (v - 1)])) us ps := Paired.kt pt_kt (same_kt s4) (Paired.kt pt_kt kt13 pp)
      generalize upd H3 T (.tup [.int (u - 1), .int (v - 1)]) = H4 at eT bx4 oo4 eL4 pp4 ⊢
      obtain ⟨n, rfl⟩ := Int.eq_ofNat_of_zero_le a0
      have hn : n < us.length := by omega
      refine ⟨_, _, rfl, ?_⟩
      refine ⟨_, rfl, _, rfl, _, rfl, L, us, rfl, sql eL4, fun l1 hl1 => ?_⟩
      have s5 := sameU (o := .lst (cutV us (some (n : Int)) none)) (Same.refl H4) hl1
      refine ⟨_, rfl, _, rfl, _, rfl, L, us, rfl, sql (s5 _ _ eL4), fun l2 hl2 => ?_⟩
      have s6 := sameU (o := .lst (cutV us none (some (n : Int)))) s5 hl2
      have s6' := sameU (o := .lst (cutV us none (some (n : Int)))) (Same.refl _) hl2
      have c1 : cutV us (some (n : Int)) none = us.drop n := cutA (by omega)
      have c2 : cutV us none (some (n : Int)) = us.take n := cutT n
      have ln : (us.drop n ++ us.take n).length = us.length := by simp; omega
      refine ⟨l1, l2, _, _, rfl, rfl, s6' _ _ upd_same, upd_same, ?_, fun R hR => ?_⟩
      · rw [← List.length_append, c1, c2, ln, hlu]
        exact Nat.le_trans (show ps.length ≤ 21 by omega) (by decide)
      have s7 := sameU (o := .lst (cutV us (some (n : Int)) none ++ cutV us none (some (n : Int)))) s6 hR
      have e7 := upd_same (H := upd (upd H4 l1 (.lst (cutV us (some (n : Int)) none))) l2 (.lst (cutV us none (some (n : Int))))) (a := R) (o := .lst (cutV us (some (n : Int)) none ++ cutV us none (some (n : Int))))
      have nR : R ≠ O := (oo4.same s6).neN hR
      show tSeq _ _ _ _ (upd (upd (upd H4 l1 (.lst (cutV us (some (n : Int)) none))) l2 (.lst (cutV us none (some (n : Int))))) R (.lst (cutV us (some (n : Int)) none ++ cutV us none (some (n : Int)))))
      generalize upd (upd (upd H4 l1 (.lst (cutV us (some (n : Int)) none))) l2 (.lst (cutV us none (some (n : Int))))) R (.lst (cutV us (some (n : Int)) none ++ cutV us none (some (n : Int)))) = H7 at s7 e7 ⊢
      rw [c1, c2] at e7
      have bx7 := bx4.same s7
      have oo7 := oo4.same s7
      have eT7 := s7 _ _ eT
      have eL7 := s7 _ _ eL4
      have pp7 : Pts H7 us ps := Paired.kt pt_kt (same_kt s7) pp4
      have pr7 : Pts H7 (us.drop n ++ us.take n) (ps.drop n ++ ps.take n) := Paired.app (Paired.drop n pp7) (Paired.take n pp7)
      have sme : ∀ q ∈ ps, Sm (2 ^ 62) q := fun q hq => by
        have := bd q hq
        unfold Sm
        omega
      have sml : ∀ q ∈ ps.drop n ++ ps.take n, Sm (2 ^ 62) q := fun q hq => by
        rcases List.mem_append.mp hq with g | g
        · exact sme _ (List.mem_of_mem_drop g)
        · exact sme _ (List.mem_of_mem_take g)
      obtain ⟨r0, r1, t, hr⟩ : ∃ r0 r1 t, ps.drop n ++ ps.take n = r0 :: r1 :: t := by
        have hl : (ps.drop n ++ ps.take n).length = ps.length := by simp; omega
        match hq : ps.drop n ++ ps.take n, hl with
        | [], hl => simp at hl; omega
        | [_], hl => simp at hl; omega
        | a :: b :: t, _ => exact ⟨a, b, t, rfl⟩
      have grown := fun (hP : ((u - 1, v - 1) : Pt) ∉ ps) => grown_put smp (show n < ps.length by omega) hr hP
      rw [hr] at pr7 sml
      obtain ⟨ru, eru⟩ : ∃ ru, ru = us.drop n ++ us.take n := ⟨_, rfl⟩
      rw [← eru] at e7 pr7 ln
      have hrl : ru.length = ps.length := ln.trans hlu
      refine ⟨_, rfl, _, rfl, R, ru, rfl, sql e7, fun m1' hm1 => ?_⟩
      have s8 := sameU (o := .lst (cutV ru (some 1) none)) (Same.refl H7) hm1
      refine ⟨_, rfl, _, rfl, R, ru, rfl, sql (s8 _ _ e7), fun m2 hm2 => ?_⟩
      have s9 := sameU (o := .lst (cutV ru (some 2) none)) s8 hm2
      refine ⟨_, rfl, _, rfl, R, ru, rfl, sql (s9 _ _ e7), fun m3 hm3 => ?_⟩
      have s10 := sameU (o := .lst (cutV ru none (some 1))) s9 hm3
      have d1 : cutV ru (some 1) none = ru.drop 1 := cut1 (by omega)
      have d2 : cutV ru (some 2) none = ru.drop 2 := cutA (n := 2) (by omega)
      have d3 : cutV ru none (some 1) = ru.take 1 := cutT 1
      have y1 := sameU (o := .lst (cutV ru none (some 1))) (sameU (o := .lst (cutV ru (some 2) none)) (Same.refl _) hm2) hm3 _ _ (upd_same (H := H7) (a := m1') (o := .lst (cutV ru (some 1) none)))
      have y2 := sameU (o := .lst (cutV ru none (some 1))) (Same.refl _) hm3 _ _ (upd_same (H := upd H7 m1' (.lst (cutV ru (some 1) none))) (a := m2) (o := .lst (cutV ru (some 2) none)))
      have y3 := upd_same (H := upd (upd H7 m1' (.lst (cutV ru (some 1) none))) m2 (.lst (cutV ru (some 2) none))) (a := m3) (o := .lst (cutV ru none (some 1)))
      have lz : (cutV ru (some 2) none ++ cutV ru none (some 1)).length = (cutV ru (some 1) none).length := by rw [d1, d2, d3]; simp; omega
      refine ⟨m2, m3, _, _, rfl, rfl, y2, y3, ?_, fun m4 hm4 => ?_⟩
      · rw [← List.length_append, lz, d1, List.length_drop, hrl]
        exact Nat.le_trans (show ps.length - 1 ≤ 21 by omega) (by decide)
      have s11 := sameU (o := .lst (cutV ru (some 2) none ++ cutV ru none (some 1))) s10 hm4
      have s11' := sameU (o := .lst (cutV ru (some 2) none ++ cutV ru none (some 1))) (Same.refl _) hm4
      refine ⟨m1', m4, _, _, rfl, .inl (sql (s11' _ _ y1)), .inl (sql upd_same), lz.symm, fun H8 Rs ts e1 e2 e3 e4 e5 => ?_⟩
      have s8' : Same H7 H8 := fun b u q => e1 _ _ (s11 _ _ q)
      have pr8 : Pts H8 ru (r0 :: r1 :: t) := Paired.kt pt_kt (same_kt s8') pr7
      rw [d1] at e4
      rw [d1, d2, d3] at e5
      have prR : Paired (Pair2 H8) (ts.map V.ref) (pathE (r1 :: t ++ [r0])) := by
        rw [pathE_zip]
        have g := zip_pairs (Paired.drop 1 pr8) (Paired.app (Paired.drop 2 pr8) (Paired.take 1 pr8)) (by simp; omega) e4 e5
        exact g
      have eT8 := s8' _ _ eT7
      have eL8 := s8' _ _ eL7
      have pp8 : Pts H8 us ps := Paired.kt pt_kt (same_kt s8') pp7
      have eR8 := s8' _ _ e7
      have oo8 := oo7.same s8'
      have bx8 := bx7.same s8'
      have nRs : Rs ≠ O := (oo7.same s11).neN e2
      obtain ⟨a0v, hz0, hz0b⟩ := Paired.at2 pr8 (show (r0 :: r1 :: t)[0]? = some r0 from rfl)
      obtain ⟨a1v, hz1, hz1b⟩ := Paired.at2 pr8 (show (r0 :: r1 :: t)[1]? = some r1 from rfl)
      clear e5 s11' y1 y2 y3 lz
      have i0 : atI ru 0 = some a0v := atI_nat (j := 0) hz0
      have i1 : atI ru 1 = some a1v := atI_nat (j := 1) hz1
      refine ⟨_, rfl, R, ru, _, _, rfl, rfl, sql eR8, i0, ?_⟩
      refine ⟨_, rfl, by show 2 ≤ sizeLine; decide, fun S1 hS1 => ?_⟩
      have t1 := sameU (o := .tup [a0v, .ref T]) (Same.refl H8) hS1
      refine ⟨_, rfl, _, rfl, R, ru, _, _, rfl, rfl, sql (t1 _ _ eR8), i1, by show 2 ≤ sizeLine; decide, fun S2 hS2 => ?_⟩
      have t2 := sameU (o := .tup [.ref T, a1v]) t1 hS2
      have t2' := sameU (o := .tup [.ref T, a1v]) (Same.refl _) hS2
      refine ⟨by show 2 ≤ sizeLine; decide, fun Fr hFr => ?_⟩
      have t3 := sameU (o := .lst [.ref S1, .ref S2]) t2 hFr
      have t3' := sameU (o := .lst [.ref S1, .ref S2]) (Same.refl _) hFr
      have f1 := t3' _ _ (t2' _ _ (upd_same (H := H8) (a := S1) (o := .tup [a0v, .ref T])))
      have f2 := t3' _ _ (upd_same (H := upd H8 S1 (.tup [a0v, .ref T])) (a := S2) (o := .tup [.ref T, a1v]))
      have f3 := upd_same (H := upd (upd H8 S1 (.tup [a0v, .ref T])) S2 (.tup [.ref T, a1v])) (a := Fr) (o := .lst [.ref S1, .ref S2])
      show tSeq _ _ _ _ (upd (upd (upd H8 S1 (.tup [a0v, .ref T])) S2 (.tup [.ref T, a1v])) Fr (.lst [.ref S1, .ref S2]))
      generalize upd (upd (upd H8 S1 (.tup [a0v, .ref T])) S2 (.tup [.ref T, a1v])) Fr (.lst [.ref S1, .ref S2]) = H9 at t3 f1 f2 f3 ⊢
      have hPT : IsPt H9 (.ref T) (u - 1, v - 1) := ⟨T, rfl, t3 _ _ eT8⟩
      have eL9 := t3 _ _ eL8
      have eR9 := t3 _ _ eR8
      have pp9 : Pts H9 us ps := Paired.kt pt_kt (same_kt t3) pp8
      have prR9 : Paired (Pair2 H9) (ts.map V.ref) (pathE (r1 :: t ++ [r0])) := Paired.kt pair2_kt (same_kt t3) prR
      have eRs9 := t3 _ _ e3
      have oo9 := oo8.same t3
      have bx9 := bx8.same t3
      have z0 := hz0b.same t3
      have z1 := hz1b.same t3
      have smP : Sm (2 ^ 62) ((u - 1, v - 1) : Pt) := by unfold Sm; omega
      have smr0 := sml r0 (.head _)
      have smr1 := sml r1 (.tail _ (.head _))
      have stay : ∀ {σ : L2.St} (H5 : Hp) (o4 o5 o6 o7 o8 o9 : Option V), Same H9 H5 → σ = [some (V.ref O), some (V.int m), some (V.ref L), some (.int i), o4, o5, o6, o7, o8, o9] → (Bx O H H5 ∧ Orch H5 O (b + 1 + 3 * ((i + 1 : Nat) : Int)) ∧ ∃ L us ps o3 o4 o5 o6 o7 o8 o9, H5 L = some (.lst us) ∧ L ≠ O ∧ Pts H5 us ps ∧ Simple ps ∧ Bd 8 ps ∧ 3 ≤ ps.length ∧ ps.length ≤ 3 + (i + 1) ∧ σ = [some (.ref O), some (.int m), some (.ref L), o3, o4, o5, o6, o7, o8, o9]) := fun H5 o4 o5 o6 o7 o8 o9 s5 e =>
        ⟨bx9.same s5, (oo9.same s5).mono (by omega), L, us, ps, _, _, _, _, _, _, _, s5 _ _ eL9, nL, Paired.kt pt_kt (same_kt s5) pp9, smp, bd, l3, by omega, e⟩
      refine ⟨_, rfl, _, rfl, dPt (u - 1, v - 1), ps.map dPt, dp_pt hPT, .lst (sql eL9) (dp_pts pp9), rfl, shp_pts ps, _, rfl, ?_⟩
      rw [any_pt]
      by_cases hP : ((u - 1, v - 1) : Pt) ∈ ps
      · rw [decide_eq_true hP]
        show (if (!true) = true then _ else _)
        rw [if_neg (by decide)]
        exact ⟨_, rfl, false, rfl, ite_t (fun h => nomatch h) (fun _ => ite_t (fun h => nomatch h) (fun _ => stay H9 _ _ _ _ _ _ (Same.refl _) rfl))⟩
      · rw [decide_eq_false hP]
        show (if (!false) = true then _ else _)
        rw [if_pos (by decide)]
        refine ⟨_, rfl, R, ru, _, _, rfl, rfl, sql eR9, i0, ?_⟩
        refine ⟨_, rfl, _, rfl, _, rfl, R, ru, _, _, rfl, rfl, sql eR9, i1, ?_⟩
        refine ⟨a0v, .ref T, .ref T, a1v, r0, (u - 1, v - 1), (u - 1, v - 1), r1, rfl, z0, hPT, hPT, z1, smr0, smP, smP, smr1, fun H10 s10 => ?_⟩
        have bx10 := bx9.same s10
        refine ⟨_, rfl, _, rfl, ite_t (fun h0 => ?_) (fun _ => ite_t (fun h => nomatch h) (fun _ => stay H10 _ _ _ _ _ _ s10 rfl))⟩
        have hes : (pathE (r1 :: t ++ [r0])).length ≤ 1000 := by
          rw [← prR9.length, List.length_map, e4, List.length_drop, hrl]
          omega
        have smE : ∀ e ∈ pathE (r1 :: t ++ [r0]), Sm (2 ^ 62) e.1 ∧ Sm (2 ^ 62) e.2 := fun e he => by
          rw [pathE_zip] at he
          obtain ⟨m1, m2⟩ := List.of_mem_zip he
          refine ⟨sml _ (List.mem_cons_of_mem _ m1), ?_⟩
          rcases List.mem_append.mp m2 with g | g
          · exact sml _ (List.mem_cons_of_mem _ (List.mem_cons_of_mem _ g))
          · rw [List.mem_singleton.mp g]; exact smr0
        refine ⟨_, rfl, Fr, [.ref S1, .ref S2], 0, .ref S1, rfl, rfl, sql (s10 _ _ f3), rfl, _, rfl, S1, Rs, a0v, .ref T, r0, (u - 1, v - 1), ts.map V.ref, pathE (r1 :: t ++ [r0]), rfl, s10 _ _ f1, z0.same s10, hPT.same s10, s10 _ _ eRs9, Paired.kt pair2_kt (same_kt s10) prR9, hes, smr0, smP, smE, fun H11 s11 => ?_⟩
        have s11' : Same H9 H11 := fun b u q => s11 _ _ (s10 _ _ q)
        refine ⟨_, rfl, ite_t (fun h1 => ?_) (fun _ => ite_t (fun h => nomatch h) (fun _ => stay H11 _ _ _ _ _ _ s11' rfl))⟩
        refine ⟨_, rfl, Fr, [.ref S1, .ref S2], 1, .ref S2, rfl, rfl, sql (s11' _ _ f3), rfl, _, rfl, S2, Rs, .ref T, a1v, (u - 1, v - 1), r1, ts.map V.ref, pathE (r1 :: t ++ [r0]), rfl, s11' _ _ f2, hPT.same s11', z1.same s11', s11' _ _ eRs9, Paired.kt pair2_kt (same_kt s11') prR9, hes, smP, smr1, smE, fun H12 s12 => ?_⟩
        have s12' : Same H9 H12 := fun b u q => s12 _ _ (s11' _ _ q)
        refine ⟨_, rfl, ite_t (fun h2 => ?_) (fun _ => stay H12 _ _ _ _ _ _ s12' rfl)⟩
        have good := grown hP h0 (fun e he => List.all_eq_true.mp h1 e he) (fun e he => List.all_eq_true.mp h2 e he)
        have eL12 := s12' _ _ eL9
        have c3 : cutV us none (some ((n : Int) + 1)) = us.take (n + 1) := cutT (n + 1)
        have c4 : cutV us (some ((n : Int) + 1)) none = us.drop (n + 1) := cutA (n := n + 1) (by omega)
        refine ⟨_, rfl, _, rfl, _, _, rfl, rfl, _, rfl, L, us, rfl, sql eL12, fun q1 hq1 => ?_⟩
        rw [c3]
        have w1 := sameU (o := .lst (us.take (n + 1))) (Same.refl H12) hq1
        have g1 := upd_same (H := H12) (a := q1) (o := .lst (us.take (n + 1)))
        refine ⟨_, rfl, by show 1 ≤ sizeLine; decide, fun q2 hq2 => ?_⟩
        have w2 := sameU (o := .lst [.ref T]) (Same.refl _) hq2
        refine ⟨q1, q2, _, _, rfl, rfl, w2 _ _ g1, upd_same, ?_, fun q3 hq3 => ?_⟩
        · rw [List.length_take]
          exact Nat.le_trans (show min (n + 1) us.length + 1 ≤ 22 by omega) (by decide)
        have w3 := sameU (o := .lst (us.take (n + 1) ++ [.ref T])) (Same.refl _) hq3
        have g3 := upd_same (H := upd (upd H12 q1 (.lst (us.take (n + 1)))) q2 (.lst [.ref T])) (a := q3) (o := .lst (us.take (n + 1) ++ [.ref T]))
        have w13 : Same H12 (upd (upd (upd H12 q1 (.lst (us.take (n + 1)))) q2 (.lst [.ref T])) q3 (.lst (us.take (n + 1) ++ [.ref T]))) := fun b u q => w3 _ _ (w2 _ _ (w1 _ _ q))
        refine ⟨_, rfl, _, rfl, _, _, rfl, rfl, _, rfl, L, us, rfl, sql (w13 _ _ eL12), fun q4 hq4 => ?_⟩
        rw [c4]
        have w4 := sameU (o := .lst (us.drop (n + 1))) (Same.refl _) hq4
        refine ⟨q3, q4, _, _, rfl, rfl, w4 _ _ g3, upd_same, ?_, fun q5 hq5 => ?_⟩
        · rw [← List.length_append]
          refine Nat.le_trans (show (us.take (n + 1) ++ [V.ref T] ++ us.drop (n + 1)).length ≤ 22 from ?_) (by decide : 22 ≤ sizeLine)
          simp
          omega
        have w5 := sameU (o := .lst (us.take (n + 1) ++ [.ref T] ++ us.drop (n + 1))) (Same.refl _) hq5
        have w15 : Same H9 (upd (upd (upd (upd (upd H12 q1 (.lst (us.take (n + 1)))) q2 (.lst [.ref T])) q3 (.lst (us.take (n + 1) ++ [.ref T]))) q4 (.lst (us.drop (n + 1)))) q5 (.lst (us.take (n + 1) ++ [.ref T] ++ us.drop (n + 1)))) := fun b u q => w5 _ _ (w4 _ _ (w13 _ _ (s12' _ _ q)))
        have nq : q5 ≠ O := ((oo9.same s12').same fun b u q => w4 _ _ (w13 _ _ q)).neN hq5
        have pq : Pts _ us ps := Paired.kt pt_kt (same_kt w15) pp9
        have lps : (ps.take (n + 1) ++ [((u - 1, v - 1) : Pt)] ++ ps.drop (n + 1)).length = ps.length + 1 := by
          simp
          omega
        refine ⟨bx9.same w15, (oo9.same w15).mono (by omega), q5, _, ps.take (n + 1) ++ [(u - 1, v - 1)] ++ ps.drop (n + 1), _, _, _, _, _, _, _, upd_same, nq, Paired.app (Paired.snoc (Paired.take _ pq) (hPT.same w15)) (Paired.drop _ pq), ?_, fun q hq => ?_, by omega, by omega, rfl⟩
        · rw [List.append_assoc]
          exact good
        · rcases List.mem_append.mp hq with hq | hq
          · rcases List.mem_append.mp hq with hq | hq
            · exact bd q (List.mem_of_mem_take hq)
            · rw [List.mem_singleton.mp hq]
              show (-8 ≤ u - 1 ∧ u - 1 ≤ 8) ∧ (-8 ≤ v - 1 ∧ v - 1 ≤ 8)
              omega
          · exact bd q (List.mem_of_mem_drop hq)
    · obtain ⟨bx2, o2, L, us, ps, o3, o4, o5, o6, o7, o8, o9, eL, nL, pp, sm, bd, l3, l4, rfl⟩ := p
      have ho : Orch H' O (b + 55) := o2.mono (by omega)
      refine ⟨_, rfl, L, us, ps, rfl, eL, pp, by omega, by omega, fun p hp => ?_, fun H2 s2 => ?_⟩
      · have := bd p hp
        unfold Sm
        omega
      refine ⟨_, rfl, ite_t (fun h0 => ?_) (fun h0 => ?_)⟩
      · have h0 : 0 < areaL ps := of_decide_eq_true h0
        exact ⟨_, rfl, k H2 L us ps (bx2.same s2) (ho.same s2) nL (s2 _ _ eL) (Paired.kt pt_kt (same_kt s2) pp) ⟨sm, h0⟩ bd (by omega)⟩
      · have h0 : ¬ 0 < areaL ps := of_decide_eq_false h0
        have fr : Fen ps.reverse := (Fen.of sm).resolve_left h0
        refine ⟨_, rfl, L, us, rfl, sql (s2 _ _ eL), fun p hp => ?_⟩
        have s3 := sameU (o := .lst us.reverse) (Same.refl H2) hp
        have s4 : Same H' (upd H2 p (.lst us.reverse)) := fun b u q => s3 _ _ (s2 _ _ q)
        refine k _ p us.reverse ps.reverse (bx2.same s4) (ho.same s4) ((ho.same s2).neN hp) upd_same ?_ fr (fun q hq => bd q (List.mem_reverse.mp hq)) (by rw [List.length_reverse]; omega)
        exact paired_rev (Paired.kt pt_kt (same_kt s4) pp)
end
end Bay
namespace Bay
open PySem PySem.Spec PyProof.Rows L2
open C8 (Cal pe_c Mak pe_mk)
section
variable {P : Program} {w : World} {K : PySem.W.Frag} {mg : Str → Option Value} {base : Heap}
def W4 : List Pt := [(1, 0), (0, 1), (-1, 0), (0, -1)]
theorem ways_at {H : Hp} {wu : List V} (h : Pts H wu W4) (k : Int) : ∃ v, atI wu (k % 4) = some v ∧ IsPt H v (ways4 k) := by
  have c : k % 4 = ((0 : Nat) : Int) ∨ k % 4 = ((1 : Nat) : Int) ∨ k % 4 = ((2 : Nat) : Int) ∨ k % 4 = ((3 : Nat) : Int) := by omega
  have get : ∀ (j : Nat) (p : Pt), W4[j]? = some p → k % 4 = (j : Int) → ways4 k = p → ∃ v, atI wu (k % 4) = some v ∧ IsPt H v (ways4 k) := fun j p e ek ew => by
    obtain ⟨v, hv, r⟩ := Paired.at2 h e
    rw [ek, ew]
    exact ⟨v, atI_nat hv, r⟩
  rcases c with e | e | e | e
  · exact get 0 _ rfl e (by unfold ways4; rw [e]; rfl)
  · exact get 1 _ rfl e (by unfold ways4; rw [e]; rfl)
  · exact get 2 _ rfl e (by unfold ways4; rw [e]; rfl)
  · exact get 3 _ rfl e (by unfold ways4; rw [e]; rfl)
theorem steps_bd (r : Nat) (h1 : 3 ≤ r) (h2 : r ≤ 6) : (∀ e ∈ stepsL r, (0 ≤ e.1 ∧ e.1 < 20) ∧ (0 ≤ e.2 ∧ e.2 < 20)) ∧ (stepsL r).length ≤ 14 := by
  have h : ∀ r ∈ [3, 4, 5, 6], ((stepsL r).all fun e => decide ((0 ≤ e.1 ∧ e.1 < 20) ∧ (0 ≤ e.2 ∧ e.2 < 20))) = true ∧ (stepsL r).length ≤ 14 := by decide +kernel
  have m : r ∈ [3, 4, 5, 6] := by
    have : r = 3 ∨ r = 4 ∨ r = 5 ∨ r = 6 := by omega
    simp; omega
  exact ⟨fun e he => of_decide_eq_true (List.all_eq_true.mp (h r m).1 e he), (h r m).2⟩
theorem curl_bd (r : Nat) (h1 : 3 ≤ r) (h2 : r ≤ 6) : Bd 8 (curlL r) ∧ (curlL r).length ≤ 14 := by
  have h : ∀ r ∈ [3, 4, 5, 6], ((curlL r).all fun v => decide ((-8 ≤ v.1 ∧ v.1 ≤ 8) ∧ (-8 ≤ v.2 ∧ v.2 ≤ 8))) = true ∧ (curlL r).length ≤ 14 := by decide +kernel
  have m : r ∈ [3, 4, 5, 6] := by
    have : r = 3 ∨ r = 4 ∨ r = 5 ∨ r = 6 := by omega
    simp; omega
  exact ⟨fun e he => of_decide_eq_true (List.all_eq_true.mp (h r m).1 e he), (h r m).2⟩
/-- the written list of ways -/
theorem ways_lit {σ : L2.St} {H : Hp} {Q : V → Hp → Prop} (k : ∀ H' L us, Same H H' → H' L = some (.lst us) → Pts H' us W4 → Q (.ref L) H') :
    tLst (tCons (tTup (tCons (tC (.int 1)) (tCons (tC (.int 0)) tNil))) (tCons (tTup (tCons (tC (.int 0)) (tCons (tC (.int 1)) tNil))) (tCons (tTup (tCons (tUn (rU fun i => V.int (-i)) (tC (V.int 1))) (tCons (tC (V.int 0)) tNil)))
        (tCons (tTup (tCons (tC (V.int 0)) (tCons (tUn (rU fun i => V.int (-i)) (tC (V.int 1))) tNil))) tNil)))) σ H Q := by
  refine ⟨by show 2 ≤ sizeLine; decide, fun T1 h1 => ⟨by show 2 ≤ sizeLine; decide, fun T2 h2 => ⟨_, rfl, by show 2 ≤ sizeLine; decide, fun T3 h3 => ⟨_, rfl, by show 2 ≤ sizeLine; decide, fun T4 h4 => ⟨by show 4 ≤ sizeLine; decide, fun L hL => ?_⟩⟩⟩⟩⟩
  have s1 := sameU (o := .tup [.int 1, .int 0]) (Same.refl H) h1
  have s2 := sameU (o := .tup [.int 0, .int 1]) s1 h2
  have s3 := sameU (o := .tup [.int (-1), .int 0]) s2 h3
  have s4 := sameU (o := .tup [.int 0, .int (-1)]) s3 h4
  have s5 := sameU (o := .lst [.ref T1, .ref T2, .ref T3, .ref T4]) s4 hL
  have t2 := sameU (o := .tup [.int 0, .int 1]) (Same.refl _) h2
  have t3 := sameU (o := .tup [.int (-1), .int 0]) (Same.refl _) h3
  have t4 := sameU (o := .tup [.int 0, .int (-1)]) (Same.refl _) h4
  have t5 := sameU (o := .lst [.ref T1, .ref T2, .ref T3, .ref T4]) (Same.refl _) hL
  exact k _ L _ s5 upd_same (.cons ⟨T1, rfl, t5 _ _ (t4 _ _ (t3 _ _ (t2 _ _ upd_same)))⟩ (.cons ⟨T2, rfl, t5 _ _ (t4 _ _ (t3 _ _ upd_same))⟩ (.cons ⟨T3, rfl, t5 _ _ (t4 _ _ upd_same)⟩ (.cons ⟨T4, rfl, t5 _ _ upd_same⟩ .nil))))
/-- a list that grew keeps all else -/
theorem Bx.ktL {L : Addr} {xs : List V} {H H' : Hp} (s : Bx L H H') (h : H L = some (.lst xs)) : Kt H H' := fun c ys e => s c _ (fun q => by rw [q, h] at e; cases e) e
def spCurl : Sp := fun vs H Q _ => ∃ r : Nat, vs = [.int r] ∧ 3 ≤ r ∧ r ≤ 6 ∧ ∀ H' L us, Same H H' → H L = none → H' L = some (.lst us) → Pts H' us (curlL r) → Q (.ref L) H'
theorem scLawCurl : FnScope ["_law_rounds", "_law_here", "_law_corners", "_law_ways", "_law_lengths", "_law_back", "_law_at", "_law_steps", "_law_each", "_law_way", "_law_long", "_law_by"] ["_law_rounds"] (defScope s_law_curl) := ⟨rfl, rfl, rfl, by decide +kernel, rfl, by decide +kernel, by decide +kernel⟩
theorem c_law_curl (B : Bn mg) (F : Has K mg "_law_curl" s_law_curl ["_law_rounds"]) : Cal P w K mg base 1 "_law_curl" spCurl [] := by
  refine F.cal scLawCurl (fun vs H Q E h => ?_) (fun f cdv A outer s H vs Q E hr h => ?_)
  · obtain ⟨_, rfl, _⟩ := h
    rfl
  · obtain ⟨r, rfl, h1, h2, k⟩ := h
    refine ⟨_, (pss_cons (ps_par3 (i := 1) (j := 2) (l := 3) rfl scLawCurl.nd rfl rfl rfl (by decide) (by decide) (by decide) rfl rfl rfl (pa_cons (pe_tup (pa_cons pe_int (pa_cons pe_int pa_nil))) (pa_cons (pe_lst pa_nil) (pa_cons (pe_lst (pa_cons (pe_tup (pa_cons pe_int (pa_cons pe_int pa_nil))) (pa_cons (pe_tup (pa_cons pe_int (pa_cons pe_int pa_nil))) (pa_cons (pe_tup (pa_cons (pe_un un_neg pe_int) (pa_cons pe_int pa_nil))) (pa_cons (pe_tup (pa_cons pe_int (pa_cons (pe_un un_neg pe_int) pa_nil))) pa_nil))))) pa_nil))) (by rfl))
 (pss_cons (ps_set (i := 4) scLawCurl.nd rfl (Or.inl rfl) (pe_op op_cat (pe_lst (pa_cons (pv 0) pa_nil)) (pe_listRc rfl (by rfl) B.list (prc_3 (by rfl) B.range (pa_cons (pv 0) (pa_cons pe_int (pa_cons (pe_un un_neg pe_int) pa_nil)))))))
 (pss_cons (ps_setLc (i := 5) (own := [("_law_at", 6)]) rfl scLawCurl.nd rfl rfl (sw_true rfl rfl rfl (by decide +kernel)) (pi_range3 (by rfl) B.range (pa_cons (pe_op op_sub (pv 0) pe_int) (pa_cons (pe_un un_neg pe_int) (pa_cons (pe_un un_neg pe_int) pa_nil)))) (blkOk_by (N := ["_law_rounds", "_law_here", "_law_corners", "_law_ways", "_law_lengths", "_law_back", "_law_at", "_law_steps", "_law_each", "_law_way", "_law_long", "_law_by"]) (sc := defScope s_law_curl) (by decide +kernel)) (fun _ _ _ _ _ => (pg_name (i := 6) scLawCurl.nd rfl (Or.inl rfl))) (fun _ _ _ _ _ => pts_nil) (fun _ _ _ _ _ => (pe_callB (call_max2 rfl) (by rfl) B.max (by decide +kernel) (pa_cons pe_int (pa_cons (pe_op op_sub (pe_op op_sub (pv 0) pe_int) (pv 6)) pa_nil)))))
 (pss_cons (ps_setLc (i := 7) (own := [("_law_at", 6), ("_law_each", 8)]) rfl scLawCurl.nd rfl rfl (sw_true rfl rfl rfl (by decide +kernel)) (pi_enumM false (by rfl) B.enumerate (pa_cons (pv 4) pa_nil)) (blkOk_by (N := ["_law_rounds", "_law_here", "_law_corners", "_law_ways", "_law_lengths", "_law_back", "_law_at", "_law_steps", "_law_each", "_law_way", "_law_long", "_law_by"]) (sc := defScope s_law_curl) (by decide +kernel)) (fun _ _ _ _ _ => (tgk K 2 rfl (pgs_cons (pg_name (i := 6) scLawCurl.nd rfl (Or.inl rfl)) (pgs_cons (pg_name (i := 8) scLawCurl.nd rfl (Or.inl rfl)) pgs_nil)))) (fun _ _ _ _ _ => pts_nil) (fun _ _ _ _ _ => (pe_tup (pa_cons (pv 6) (pa_cons (pv 8) pa_nil)))))
 (pss_cons (ps_set (i := 7) scLawCurl.nd rfl (Or.inl rfl) (pe_op op_cat (pe_op op_cat (pv 7) (pe_lc (own := [("_law_at", 6), ("_law_each", 8)]) rfl scLawCurl.nd (pi_zipR false (by rfl) B.zip (prc_3 (by rfl) B.range (pa_cons (pe_op op_sub (pv 0) pe_int) (pa_cons (pe_un un_neg pe_int) (pa_cons (pe_un un_neg pe_int) pa_nil)))) (pv 5)) (blkOk_by (N := ["_law_rounds", "_law_here", "_law_corners", "_law_ways", "_law_lengths", "_law_back", "_law_at", "_law_steps", "_law_each", "_law_way", "_law_long", "_law_by"]) (sc := defScope s_law_curl) (by decide +kernel)) (fun _ _ _ _ _ => (tgk K 2 rfl (pgs_cons (pg_name (i := 6) scLawCurl.nd rfl (Or.inl rfl)) (pgs_cons (pg_name (i := 8) scLawCurl.nd rfl (Or.inl rfl)) pgs_nil)))) (fun _ _ _ _ _ => pts_nil) (fun _ _ _ _ _ => (pe_tup (pa_cons (pe_op op_add (pv 6) pe_int) (pa_cons (pv 8) pa_nil)))))) (pe_lst (pa_cons (pe_tup (pa_cons pe_int (pa_cons pe_int pa_nil))) pa_nil))))
 (pss_cons (ps_for PassesOwn.never rfl (pi_list (pv 7)) (pg_tup rfl (pgs_cons (pg_name (i := 9) scLawCurl.nd rfl (Or.inl rfl)) (pgs_cons (pg_name (i := 10) scLawCurl.nd rfl (Or.inl rfl)) pgs_nil)))
 (pss_cons (ps_expr (pe_bm PySem.F.plainAttrs_list PySem.F.slot_list_append PySem.F.type_list_append mt_append (pv 2) (pa_cons (pv 1) pa_nil)))
 (pss_cons (ps_set (i := 11) scLawCurl.nd rfl (Or.inl rfl) (ixL (pv 3) (pe_op op_mod (pe_callTy call_int1 (by rfl) B.int (by decide +kernel) (pa_cons (pv 9) pa_nil)) pe_int)))
 (pss_one (ps_set (i := 1) scLawCurl.nd rfl (Or.inl rfl) (pe_tup (pa_cons (pe_op op_add (ixT (pv 1) pe_int) (pe_op op_mul (pv 10) (ixT (pv 11) pe_int))) (pa_cons (pe_op op_add (ixT (pv 1) pe_int) (pe_op op_mul (pv 10) (ixT (pv 11) pe_int))) pa_nil))))))))
 (pss_one (ps_ret (pv 2))))))))), ?_⟩
    refine ⟨by show 2 ≤ sizeLine; decide, fun T0 hT0 => ⟨by decide, fun L hL => ?_⟩⟩
    have sT0 := sameU (o := .tup [.int 0, .int 0]) (Same.refl H) hT0
    have hT1 : (upd H T0 (.tup [.int 0, .int 0])) T0 = some (.tup [.int 0, .int 0]) := upd_same
    have sL1 := sameU (o := .lst []) sT0 hL
    have sL := sameU (o := .lst []) (Same.refl _) hL
    have hT2 := sL _ _ hT1
    have hL0 : H L = none := by
      cases q : H L with
      | none => rfl
      | some o => rw [sT0 _ _ q] at hL; cases hL
    have hL2 : (upd (upd H T0 (.tup [.int 0, .int 0])) L (.lst [])) L = some (.lst []) := upd_same
    show tLst _ _ (upd (upd H T0 (.tup [.int 0, .int 0])) L (.lst [])) _
    generalize upd (upd H T0 (.tup [.int 0, .int 0])) L (.lst []) = H1 at sL1 hT2 hL2 ⊢
    refine ways_lit fun H2 Wa wu s2 eW pW => ?_
    have sH2 : Same H H2 := fun b u q => s2 _ _ (sL1 _ _ q)
    have eT2 := s2 _ _ hT2
    have eL2 := s2 _ _ hL2
    refine ⟨_, _, _, rfl, ?_⟩
    refine ⟨_, rfl, by show 1 ≤ sizeLine; decide, fun l1 hl1 => ?_⟩
    have s3 := sameU (o := .lst [.int r]) (Same.refl H2) hl1
    have rg0 : RgC (r : Int) 0 (-1) r := by
      have := RgC.neg (i := (r : Int)) (j := 0) (by omega) (by omega) (by omega) (by omega)
      rwa [Int.sub_zero, Int.toNat_natCast] at this
    refine ⟨_, rfl, _, rfl, r, 0, -1, r, rfl, rg0, by omega, fun l2 hl2 => ?_⟩
    have s4 := sameU (o := .lst (rcV r (-1) r)) s3 hl2
    have e1 := sameU (o := .lst (rcV r (-1) r)) (Same.refl _) hl2 _ _ (upd_same (H := H2) (a := l1) (o := .lst [.int r]))
    have e2 := upd_same (H := upd H2 l1 (.lst [.int r])) (a := l2) (o := .lst (rcV r (-1) r))
    refine ⟨l1, l2, _, _, rfl, rfl, e1, e2, ?_, fun l3 hl3 => ?_⟩
    · rw [rcV_length]
      exact Nat.le_trans (show 1 + r ≤ 21 by omega) (by decide)
    have s5 := sameU (o := .lst ([.int r] ++ rcV r (-1) r)) s4 hl3
    have e3 := upd_same (H := upd (upd H2 l1 (.lst [.int r])) l2 (.lst (rcV r (-1) r))) (a := l3) (o := .lst ([.int r] ++ rcV r (-1) r))
    show tSeq _ _ _ _ (upd (upd (upd H2 l1 (.lst [.int r])) l2 (.lst (rcV r (-1) r))) l3 (.lst ([.int r] ++ rcV r (-1) r)))
    generalize upd (upd (upd H2 l1 (.lst [.int r])) l2 (.lst (rcV r (-1) r))) l3 (.lst ([.int r] ++ rcV r (-1) r)) = H3 at s5 e3 ⊢
    have rg1 : RgC ((r : Int) - 1) (-1) (-1) r := by
      have := RgC.neg (i := (r : Int) - 1) (j := -1) (by omega) (by omega) (by omega) (by omega)
      rwa [show ((r : Int) - 1 - -1).toNat = r by omega] at this
    have hr3 : r ≤ sizeLine := Nat.le_trans (show r ≤ 21 by omega) (by decide)
    refine ⟨_, rfl, _, _, rfl, rfl, _, rfl, _, rfl, _, -1, -1, r, rfl, rg1, fun D hD => ?_⟩
    refine lc_gen (walk_rangeC (lo := (r : Int) - 1) (c := -1) (n := r)) (List.range r) (fun _ => true) (fun i => mx 1 (i : Int)) IsI (by simp) hr3 isI_kt hD (fun H s => trivial) (fun i e y H0 H' Ny Ns ee s Y hy _ => ?_) (fun ys H4 s6 e6 p6 => ?_)
    · obtain ⟨rfl, rfl⟩ := Y
      have hi : i < r := by
        have := (List.getElem?_eq_some_iff.mp ee).1
        simpa using this
      rw [List.getElem?_range hi] at ee
      cases ee
      refine ⟨rfl, _, rfl, _, _, rfl, rfl, _, rfl, _, _, rfl, rfl, _, _, rfl, ?_⟩
      refine hy rfl _ _ (Same.refl _) ?_
      show V.int _ = V.int (mx 1 (i : Int))
      rw [show ((r : Int) - 1 - ((r : Int) - 1 + (i : Int) * -1)) = (i : Int) by omega]
      rfl
    · rw [filter_yes] at p6
      have p6 := ints_of p6
      have lx : ([V.int r] ++ rcV r (-1) r).length = r + 1 := by rw [List.length_append, rcV_length]; exact Nat.add_comm _ _
      refine ⟨_, rfl, l3, _, rfl, sql (s6 _ _ e3), fun D2 hD2 => ?_⟩
      have e6b := e6
      rw [p6] at e6b
      refine lc_gen (walk_enumM (b := false) (xs := [V.int r] ++ rcV r (-1) r)) (List.range (r + 1)) (fun _ => true) (fun i => ((i : Int), if i = 0 then (r : Int) else (r : Int) - ((i : Int) - 1))) IsPt (by rw [lx, List.length_range]) (by rw [lx]; exact Nat.le_trans (show r + 1 ≤ 21 by omega) (by decide)) pt_kt hD2 (fun H s => sql (s _ _ (s6 _ _ e3))) (fun i e y H0 H' Ny Ns ee s Y hy _ => ?_) (fun zs H5 s7 e7 p7 => ?_)
      · obtain ⟨T, x, z, rfl, hT, rfl, ex, ez⟩ := Y
        cases ex
        have hi : i < r + 1 := by
          have := (List.getElem?_eq_some_iff.mp ee).1
          simpa using this
        rw [List.getElem?_range hi] at ee
        cases ee
        have hz : z = .int (if i = 0 then (r : Int) else (r : Int) - ((i : Int) - 1)) := by
          cases i with
          | zero => exact (Option.some.inj ez).symm
          | succ m =>
            have e8 : (rcV r (-1) r)[m]? = some z := ez
            rw [rcV_at (by omega)] at e8
            rw [if_neg (by omega), ← Option.some.inj e8]
            congr 1
            omega
        subst hz
        refine ⟨T, _, rfl, sqt upd_same, rfl, _, _, rfl, ?_⟩
        refine ⟨_, _, rfl, ?_⟩
        refine ⟨rfl, rfl, ?_⟩
        refine ⟨_, rfl, _, rfl, by show 2 ≤ sizeLine; decide, fun T2 hT2 => ?_⟩
        exact hy rfl _ _ (sameU (sameU (Same.refl _) hT) hT2) ⟨T2, rfl, upd_same⟩
      rw [filter_yes] at p7
      have s7' : Same H3 H5 := fun b u q => s7 _ _ (s6 _ _ q)
      refine ⟨_, rfl, _, rfl, _, _, rfl, rfl, _, rfl, _, rfl, _, -1, -1, r, rfl, rg1, _, rfl, D, _, rfl, sql (s7 _ _ e6b), fun D3 hD3 => ?_⟩
      refine lc_gen (walk_zipR (n := r) (lo := (r : Int) - 1) (c := -1) (b2 := false) (ys := ((List.range r).map fun i : Nat => mx 1 (i : Int)).map V.int) (by simp)) (List.range r) (fun _ => true) (fun i : Nat => ((r : Int) - 1 - (i : Int) + 2, mx 1 (i : Int))) IsPt (by simp) hr3 pt_kt hD3 (fun H s => sql (s _ _ (s7 _ _ e6b))) (fun i e y H0 H' Ny Ns ee s Y hy _ => ?_) (fun ws H6 s8 e8 p8 => ?_)
      · obtain ⟨T, x, z, rfl, hT, rfl, ex, ez⟩ := Y
        cases ex
        have hi : i < r := by
          have := (List.getElem?_eq_some_iff.mp ee).1
          simpa using this
        rw [List.getElem?_range hi] at ee
        cases ee
        have hz : z = .int (mx 1 (i : Int)) := by
          have ez : (((List.range r).map fun i : Nat => mx 1 (i : Int)).map V.int)[i]? = some z := ez
          rw [List.getElem?_map, List.getElem?_map, List.getElem?_range hi] at ez
          exact (Option.some.inj ez).symm
        subst hz
        refine ⟨T, _, rfl, sqt upd_same, rfl, _, _, rfl, ?_⟩
        refine ⟨_, _, rfl, ?_⟩
        refine ⟨rfl, rfl, ?_⟩
        refine ⟨_, rfl, _, _, rfl, rfl, _, rfl, by show 2 ≤ sizeLine; decide, fun T2 hT2 => ?_⟩
        refine hy rfl _ _ (sameU (sameU (Same.refl _) hT) hT2) ⟨T2, rfl, ?_⟩
        rw [upd_same]
        show some (HO.tup [V.int ((r : Int) - 1 + (i : Int) * -1 + 2), V.int (mx 1 (i : Int))]) = some (HO.tup [V.int ((r : Int) - 1 - (i : Int) + 2), V.int (mx 1 (i : Int))])
        rw [show (r : Int) - 1 + (i : Int) * -1 + 2 = (r : Int) - 1 - (i : Int) + 2 by omega]
      rw [filter_yes] at p8
      have lz : zs.length = r + 1 := by rw [p7.length]; simp
      have lw : ws.length = r := by rw [p8.length]; simp
      refine ⟨D2, D3, zs, ws, rfl, rfl, s8 _ _ e7, e8, ?_, fun R hR => ?_⟩
      · rw [lz, lw]
        exact Nat.le_trans (show r + 1 + r ≤ 21 by omega) (by decide)
      have s9 := sameU (o := .lst (zs ++ ws)) (Same.refl H6) hR
      have e9 := upd_same (H := H6) (a := R) (o := .lst (zs ++ ws))
      refine ⟨by show 2 ≤ sizeLine; decide, fun T3 hT3 => ⟨by show 1 ≤ sizeLine; decide, fun l6 hl6 => ?_⟩⟩
      have s10 := sameU (o := .tup [.int 3, .int 1]) (Same.refl _) hT3
      have s11 := sameU (o := .lst [.ref T3]) (Same.refl _) hl6
      have eT3 := s11 _ _ (upd_same (H := upd H6 R (.lst (zs ++ ws))) (a := T3) (o := .tup [.int 3, .int 1]))
      have e9' := s11 _ _ (s10 _ _ e9)
      have e12 := upd_same (H := upd (upd H6 R (.lst (zs ++ ws))) T3 (.tup [.int 3, .int 1])) (a := l6) (o := .lst [.ref T3])
      refine ⟨R, l6, _, _, rfl, rfl, e9', e12, ?_, fun S hS => ?_⟩
      · rw [List.length_append, lz, lw]
        exact Nat.le_trans (show r + 1 + r + 1 ≤ 21 by omega) (by decide)
      have s13 := sameU (o := .lst (zs ++ ws ++ [.ref T3])) (Same.refl _) hS
      have eS := upd_same (H := upd (upd (upd H6 R (.lst (zs ++ ws))) T3 (.tup [.int 3, .int 1])) l6 (.lst [.ref T3])) (a := S) (o := .lst (zs ++ ws ++ [.ref T3]))
      have sA : Same H6 (upd (upd (upd (upd H6 R (.lst (zs ++ ws))) T3 (.tup [.int 3, .int 1])) l6 (.lst [.ref T3])) S (.lst (zs ++ ws ++ [.ref T3]))) := fun b u q => s13 _ _ (s11 _ _ (s10 _ _ (s9 _ _ q)))
      have eT3 := s13 _ _ eT3
      show tSeq _ _ _ _ (upd (upd (upd (upd H6 R (.lst (zs ++ ws))) T3 (.tup [.int 3, .int 1])) l6 (.lst [.ref T3])) S (.lst (zs ++ ws ++ [.ref T3])))
      generalize upd (upd (upd (upd H6 R (.lst (zs ++ ws))) T3 (.tup [.int 3, .int 1])) l6 (.lst [.ref T3])) S (.lst (zs ++ ws ++ [.ref T3])) = H7 at sA eS eT3 ⊢
      have pS : Pts H7 (zs ++ ws ++ [.ref T3]) (stepsL r) := by
        have e : stepsL r = ((List.range (r + 1)).map fun i : Nat => ((i : Int), if i = 0 then (r : Int) else (r : Int) - ((i : Int) - 1))) ++ ((List.range r).map fun i : Nat => ((r : Int) - 1 - (i : Int) + 2, mx 1 (i : Int))) ++ [(3, 1)] := by
          rw [List.append_assoc]
          rfl
        rw [e]
        exact Paired.snoc (Paired.app (Paired.kt pt_kt (same_kt fun b u q => sA _ _ (s8 _ _ q)) p7) (Paired.kt pt_kt (same_kt sA) p8)) ⟨T3, rfl, eT3⟩
      generalize zs ++ ws ++ [V.ref T3] = su at eS pS
      have sB : Same H2 H7 := fun b u q => sA _ _ (s8 _ _ (s7' _ _ (s5 _ _ q)))
      have eT7 := sB _ _ eT2
      have eL7 := sB _ _ eL2
      have eW7 := sB _ _ eW
      have pW7 : Pts H7 wu W4 := Paired.kt pt_kt (same_kt sB) pW
      have sH7 : Same H H7 := fun b u q => sB _ _ (sH2 _ _ q)
      clear e1 e2 e9 e9' e12 s13 s11 s10 s9 sA e8 p8 e7 p7
      obtain ⟨bdS, lnS⟩ := steps_bd r h1 h2
      have hsu : su.length = (stepsL r).length := pS.length
      have nS : S ≠ L := fun q => by
        rw [q, eL7] at eS
        have z : su = [] := by cases eS; rfl
        rw [z] at hsu
        simp [stepsL] at hsu
      have nW : Wa ≠ L := fun q => by
        rw [q, eL7] at eW7
        have z : wu = [] := by cases eW7; rfl
        have := pW7.length
        rw [z] at this
        cases this
      refine ⟨_, rfl, S, rfl, ⟨_, sql eS⟩, ?_⟩
      refine for_it (walk_list (xs := su)) (fun i σ H' => Bx L H7 H' ∧ ∃ T us acc here o5 o6 o8 o9 o10 o11, σ = [some (.int r), some (.ref T), some (.ref L), some (.ref Wa), some (.ref l3), o5, o6, some (.ref S), o8, o9, o10, o11] ∧ H' T = some (.tup [.int here.1, .int here.2]) ∧ H' L = some (.lst us) ∧ Pts H' us acc ∧ acc.length = i ∧ curlL r = acc ++ walkL here ((stepsL r).drop i) ) ⟨Bx.refl, T0, [], [], (0, 0), _, _, _, _, _, _, rfl, eT7, eL7, .nil, rfl, rfl⟩ (fun i σ H' hi p => ?_) (fun i y σ H0 H' hi p Y => ?_) (fun σ H' p => ?_)
      · exact sql (p.1 _ _ nS eS)
      · obtain ⟨rfl, ey⟩ := Y
        obtain ⟨bx, T, us, acc, here, o5, o6, o8, o9, o10, o11, rfl, eT, eL, pa, la, hc⟩ := p
        have kt := bx.ktL eL7
        obtain ⟨e, he, Te, rfl, eTe⟩ := Paired.at (Paired.kt pt_kt kt pS) ey
        obtain ⟨hi2, he2⟩ := List.getElem?_eq_some_iff.mp he
        have hd : (stepsL r).drop i = e :: (stepsL r).drop (i + 1) := by rw [List.drop_eq_getElem_cons hi2, he2]
        obtain ⟨⟨b1, b2⟩, b3, b4⟩ := bdS e (List.mem_of_getElem? he)
        refine ⟨Te, _, rfl, sqt eTe, rfl, _, _, rfl, ?_⟩
        refine ⟨_, _, rfl, ?_⟩
        refine ⟨rfl, ?_⟩
        refine app_v (K := K) (D := L) (vs := us) (x := .ref T) rfl rfl eL ?_ ?_
        · rw [pa.length, la]
          exact Nat.lt_of_lt_of_le (show i < 21 by omega) (by decide)
        have ktu := kt_upd (o := .lst (us ++ [.ref T])) eL
        have bx2 : Bx L H7 (upd H' L (.lst (us ++ [.ref T]))) := bx.set
        have eT2 := ktu _ _ eT
        have pa2 : Pts (upd H' L (.lst (us ++ [.ref T]))) (us ++ [.ref T]) (acc ++ [here]) := Paired.snoc (Paired.kt pt_kt ktu pa) ⟨T, rfl, eT2⟩
        have eL2 : (upd H' L (.lst (us ++ [.ref T]))) L = some (.lst (us ++ [.ref T])) := upd_same
        generalize upd H' L (.lst (us ++ [.ref T])) = H8 at bx2 eT2 pa2 eL2 ⊢
        obtain ⟨wv, hwv, Tw, rfl, eTw⟩ := ways_at (Paired.kt pt_kt (bx2.ktL eL7) pW7) e.1
        have eW8 := bx2 _ _ nW eW7
        have hH : IsPt H8 (.ref T) here := ⟨T, rfl, eT2⟩
        have hW : IsPt H8 (.ref Tw) (ways4 e.1) := ⟨Tw, rfl, eTw⟩
        refine ⟨_, rfl, _, rfl, .inl ⟨_, rfl, _, _, rfl, rfl, (by decide : (0 : Int) < 4), Wa, wu, _, _, rfl, rfl, sql eW8, hwv, ?_⟩⟩
        refine ⟨_, rfl, hH.i0 ⟨_, rfl, _, rfl, hW.i0 ⟨_, _, rfl, rfl, .inl ⟨by omega, by omega⟩, _, _, rfl, rfl, ?_⟩⟩⟩
        refine ⟨_, rfl, hH.i1 ⟨_, rfl, _, rfl, hW.i1 ⟨_, _, rfl, rfl, .inl ⟨by omega, by omega⟩, _, _, rfl, rfl, by show 2 ≤ sizeLine; decide, fun T2 hT2 => ?_⟩⟩⟩
        have s14 := sameU (o := .tup [.int (here.1 + e.2 * (ways4 e.1).1), .int (here.2 + e.2 * (ways4 e.1).2)]) (Same.refl H8) hT2
        refine ⟨bx2.same s14, T2, us ++ [.ref T], acc ++ [here], (here.1 + e.2 * (ways4 e.1).1, here.2 + e.2 * (ways4 e.1).2), _, _, _, _, _, _, rfl, upd_same, s14 _ _ eL2, Paired.kt pt_kt (same_kt s14) pa2, by simp [la], ?_⟩
        rw [hc, hd]
        simp [walkL]
      · obtain ⟨bx, T, us, acc, here, o5, o6, o8, o9, o10, o11, rfl, eT, eL, pa, la, hc⟩ := p
        have hz : (stepsL r).drop su.length = [] := List.drop_of_length_le (by omega)
        rw [hz] at hc
        have hc2 : curlL r = acc := by rw [hc]; exact List.append_nil _
        refine ⟨_, rfl, k _ L us (fun b u q => bx _ _ (fun z => by rw [z, hL0] at q; cases q) (sH7 _ _ q)) hL0 eL ?_⟩
        rw [hc2]
        exact pa
end
end Bay
namespace Bay
open PySem PySem.Spec PyProof.Rows L2
open C8 (Cal pe_c Mak pe_mk)
section
variable {P : Program} {w : World} {K : PySem.W.Frag} {mg : Str → Option Value} {base : Heap}
/-- new where all but the orchard was kept: new of old -/
theorem Bx.fresh {H H1 : Hp} {O T : Addr} {b : Int} (s : Bx O H H1) (o : Orch H1 O b) (h : H1 T = none) : H T = none := by
  cases q : H T with
  | none => rfl
  | some u => rw [s _ _ (o.neN h) q] at h; cases h
theorem Bx.newU {H H1 : Hp} {O T : Addr} {u : HO} (s : Bx O H H1) (h : H T = none) : Bx O H (upd H1 T u) := fun c o n e => by
  rw [upd_ne (ne_of_none e h)]
  exact s c o n e
theorem Orch.updN {H : Hp} {O T : Addr} {b : Int} {u : HO} (h : Orch H O b) (n : T ≠ O) (c : ∀ ns : List Int, H T ≠ some (.lst (ns.map V.int))) : Orch (upd H T u) O b := by
  obtain ⟨d, cs, t, l, h1, h2, h3⟩ := h.ex
  refine ⟨d, cs, t, l, ?_, ?_, h3⟩
  · rw [upd_ne (Ne.symm n)]; exact h1
  · rw [upd_ne (fun q => c cs (by rw [← q]; exact h2))]; exact h2
theorem noInts {H : Hp} {T : Addr} {x : Addr} {us : List V} (e : H T = some (.lst (.ref x :: us))) (ns : List Int) : H T ≠ some (.lst (ns.map V.int)) := fun q => by
  rw [e] at q
  cases ns with
  | nil => cases q
  | cons n ns => cases q
theorem pts_head {H : Hp} {us : List V} {p : Pt} {ps : List Pt} (h : Pts H us (p :: ps)) : ∃ x vs, us = .ref x :: vs := by
  cases h with
  | cons r t =>
    obtain ⟨x, rfl, _⟩ := r
    exact ⟨x, _, rfl⟩
theorem teethL_snoc : ∀ (t : List (Int × Int × Int × Int)) (k a b c : Int), teethL (t ++ [(k, a, b, c)]) = teethL t ++ toothL k a b c
  | [], k, a, b, c => by simp [teethL]
  | (x, y, z, w) :: t, k, a, b, c => by
    show toothL x y z w ++ teethL (t ++ [(k, a, b, c)]) = toothL x y z w ++ teethL t ++ toothL k a b c
    rw [teethL_snoc t, List.append_assoc]
theorem teethL_len : ∀ t : List (Int × Int × Int × Int), (teethL t).length = 3 * t.length
  | [] => rfl
  | (x, y, z, w) :: t => by
    show (toothL x y z w ++ teethL t).length = _
    rw [List.length_append, teethL_len t]
    simp only [toothL, List.length_cons, List.length_nil]
    omega
theorem teeth_bd : ∀ t : List (Int × Int × Int × Int), (∀ x ∈ t, 0 ≤ x.1 ∧ x.1 ≤ 3) → (∀ x ∈ t, dr3 x.2) → Bd 12 (teethL t)
  | [], _, _ => fun v hv => by cases hv
  | (k, a, b, c) :: t, ht, d => fun v hv => by
    rcases List.mem_append.mp (show v ∈ toothL k a b c ++ teethL t from hv) with hv | hv
    · obtain ⟨⟨d1, d2⟩, ⟨d3, d4⟩, d5, d6⟩ := d _ (List.mem_cons_self ..)
      obtain ⟨k1, k2⟩ := ht _ (List.mem_cons_self ..)
      simp only at d1 d2 d3 d4 d5 d6 k1 k2
      simp only [toothL, List.mem_cons, List.not_mem_nil, or_false] at hv
      rcases hv with rfl | rfl | rfl
      all_goals
        simp only
        omega
    · exact teeth_bd t (fun x hx => ht x (List.mem_cons_of_mem _ hx)) (fun x hx => d x (List.mem_cons_of_mem _ hx)) v hv
/-- the combs that the law draws -/
theorem comb_ok {N : Nat} {t : List (Int × Int × Int × Int)} (h1 : 1 ≤ N) (h2 : N ≤ 3) (e : t.map (·.1) = (List.range N).map fun j : Nat => (N : Int) + (j : Int) * -1) (d : ∀ x ∈ t, dr3 x.2) : Fen (combL N t) ∧ Bd 12 (combL N t) ∧ (combL N t).length ≤ 21 := by
  have hl : t.length = N := by
    have := congrArg List.length e
    simpa using this
  have bd : Bd 12 (combL N t) := by
    have ht : ∀ x ∈ t, 0 ≤ x.1 ∧ x.1 ≤ 3 := fun x hx => by
      have : x.1 ∈ t.map (·.1) := List.mem_map.mpr ⟨x, hx, rfl⟩
      rw [e] at this
      obtain ⟨j, hj, q⟩ := List.mem_map.mp this
      have := List.mem_range.mp hj
      omega
    intro v hv
    rcases List.mem_cons.mp hv with rfl | hv
    · exact ⟨⟨by decide, by decide⟩, by decide, by decide⟩
    rcases List.mem_cons.mp hv with rfl | hv
    · show (-12 ≤ 3 * (N : Int) ∧ 3 * (N : Int) ≤ 12) ∧ (-12 ≤ (0 : Int) ∧ (0 : Int) ≤ 12)
      omega
    rcases List.mem_append.mp hv with hv | hv
    · exact teeth_bd t ht d v hv
    · rw [List.mem_singleton.mp hv]
      exact ⟨⟨by decide, by decide⟩, by decide, by decide⟩
  refine ⟨?_, bd, ?_⟩
  · have c : N = 1 ∨ N = 2 ∨ N = 3 := by omega
    rcases c with rfl | rfl | rfl
    · match t, hl, e, d with
      | [(k, x)], _, e, d =>
        have ek : k = 1 := by simpa [List.range_succ] using e
        subst ek
        exact comb1 (d _ (List.mem_cons_self ..))
    · match t, hl, e, d with
      | [(k, x), (k2, y)], _, e, d =>
        have ek : k = 2 ∧ k2 = 1 := by simpa [List.range_succ] using e
        obtain ⟨rfl, rfl⟩ := ek
        exact comb2 (d (2, x) (by simp)) (d (1, y) (by simp))
    · match t, hl, e, d with
      | [(k, x), (k2, y), (k3, z)], _, e, d =>
        have ek : k = 3 ∧ k2 = 2 ∧ k3 = 1 := by simpa [List.range_succ] using e
        obtain ⟨rfl, rfl, rfl⟩ := ek
        exact comb3 (d (3, x) (by simp)) (d (2, y) (by simp)) (d (1, z) (by simp))
  · unfold combL
    rw [List.length_cons, List.length_cons, List.length_append, teethL_len, hl]
    show 3 * N + 1 + 1 + 1 ≤ 21
    omega
theorem Bd.mono {b c : Int} {l : List Pt} (h : Bd b l) (e : b ≤ c) : Bd c l := fun v hv => by
  have := h v hv
  omega
def spFence : Sp := fun vs H Q _ => ∃ (O : Addr) (b : Int), vs = [.ref O] ∧ Orch H O b ∧ b < 2 ^ 18 ∧ ∀ H' L us ps, Bx O H H' → Orch H' O (b + 100) → L ≠ O → H' L = some (.lst us) → Pts H' us ps → Fen ps → Bd 40 ps → ps.length ≤ 21 → Q (.ref L) H'
theorem scLawFence : FnScope ["_law_orchard_here", "_law_way", "_law_corners", "_law_teeth", "_law_tooth", "_law_high", "_law_deep", "_law_factor", "_law_by", "_law_x", "_law_y", "_law_at"] ["_law_orchard_here"] (defScope s_law_fence) := ⟨rfl, rfl, rfl, by decide +kernel, rfl, by decide +kernel, by decide +kernel⟩
theorem c_law_fence (B : Bn mg) (C_law_prune : Cal P w K mg base 1 "_law_prune" spPrune []) (C_law_grown : Cal P w K mg base 6 "_law_grown" spGrown []) (C_law_curl : Cal P w K mg base 1 "_law_curl" spCurl []) (F : Has K mg "_law_fence" s_law_fence ["_law_orchard_here"]) : Cal P w K mg base 7 "_law_fence" spFence [] := by
  refine F.cal scLawFence (fun vs H Q E h => ?_) (fun f cdv A outer s H vs Q E hr h => ?_)
  · obtain ⟨_, _, rfl, _⟩ := h
    rfl
  · obtain ⟨O, b, rfl, hO, hb, k⟩ := h
    refine ⟨_, (pss_cons (ps_set (i := 1) scLawFence.nd rfl (Or.inl rfl) (pe_c C_law_prune hr (by decide) rfl (pa_cons (pv 0) (pa_cons pe_int pa_nil))))
 (C8.pss_cut (ps_set (i := 2) scLawFence.nd rfl (Or.inl rfl) (pe_ifExp (pt_cmpR op_lt (pv 1) pe_int (nomark _)) (pe_c C_law_grown hr (by decide) rfl (pa_cons (pv 0) (pa_cons (pe_op op_add pe_int (pe_c C_law_prune hr (by decide) rfl (pa_cons (pv 0) (pa_cons pe_int pa_nil)))) pa_nil))) (pe_c C_law_curl hr (by decide) rfl (pa_cons (pe_op op_add pe_int (pe_c C_law_prune hr (by decide) rfl (pa_cons (pv 0) (pa_cons pe_int pa_nil)))) pa_nil))))
 (C8.pss_cut (ps_if (pt_cmpR op_eq (pv 1) pe_int (nomark _)) (pss_cons (ps_set (i := 3) scLawFence.nd rfl (Or.inl rfl) (pe_op op_add pe_int (pe_c C_law_prune hr (by decide) rfl (pa_cons (pv 0) (pa_cons pe_int pa_nil)))))
 (pss_cons (ps_set (i := 2) scLawFence.nd rfl (Or.inl rfl) (pe_lst (pa_cons (pe_tup (pa_cons pe_int (pa_cons pe_int pa_nil))) (pa_cons (pe_tup (pa_cons (pe_op op_mul pe_int (pv 3)) (pa_cons pe_int pa_nil))) pa_nil))))
 (pss_cons (ps_for PassesOwn.never rfl (pi_range3 (by rfl) B.range (pa_cons (pv 3) (pa_cons pe_int (pa_cons (pe_un un_neg pe_int) pa_nil)))) (pg_name (i := 4) scLawFence.nd rfl (Or.inl rfl))
 (pss_cons (ps_par (i := 5) (j := 6) rfl scLawFence.nd rfl rfl (by decide) rfl rfl (pa_cons (pe_op op_add pe_int (pe_c C_law_prune hr (by decide) rfl (pa_cons (pv 0) (pa_cons pe_int pa_nil)))) (pa_cons (pe_op op_add pe_int (pe_c C_law_prune hr (by decide) rfl (pa_cons (pv 0) (pa_cons pe_int pa_nil)))) pa_nil)) (by rfl))
 (pss_one (ps_set (i := 2) scLawFence.nd rfl (Or.inl rfl) (pe_op op_cat (pv 2) (pe_lst (pa_cons (pe_tup (pa_cons (pe_op op_mul pe_int (pv 4)) (pa_cons (pv 5) pa_nil))) (pa_cons (pe_tup (pa_cons (pe_op op_sub (pe_op op_mul pe_int (pv 4)) pe_int) (pa_cons (pv 5) pa_nil))) (pa_cons (pe_tup (pa_cons (pe_op op_sub (pe_op op_sub (pe_op op_mul pe_int (pv 4)) pe_int) (pe_c C_law_prune hr (by decide) rfl (pa_cons (pv 0) (pa_cons pe_int pa_nil)))) (pa_cons (pv 6) pa_nil))) pa_nil)))))))))
 (pss_one (ps_expr (pe_bm PySem.F.plainAttrs_list PySem.F.slot_list_append PySem.F.type_list_append mt_append (pv 2) (pa_cons (pe_tup (pa_cons pe_int (pa_cons pe_int pa_nil))) pa_nil))))))) pss_nil)
 (pss_cons (ps_asg (pe_tup (pa_cons (pe_op op_add pe_int (pe_c C_law_prune hr (by decide) rfl (pa_cons (pv 0) (pa_cons pe_int pa_nil)))) (pa_cons (pe_tup (pa_cons (pe_op op_sub (pe_c C_law_prune hr (by decide) rfl (pa_cons (pv 0) (pa_cons pe_int pa_nil))) pe_int) (pa_cons (pe_op op_sub (pe_c C_law_prune hr (by decide) rfl (pa_cons (pv 0) (pa_cons pe_int pa_nil))) pe_int) pa_nil))) pa_nil))) (pg_tup rfl (pgs_cons (pg_name (i := 7) scLawFence.nd rfl (Or.inr rfl)) (pgs_cons (pg_name (i := 8) scLawFence.nd rfl (Or.inr rfl)) pgs_nil))))
 (pss_cons (ps_setLc (i := 2) (own := [("_law_x", 9), ("_law_y", 10)]) rfl scLawFence.nd rfl rfl (sw_true rfl rfl rfl (by decide +kernel)) (pi_list (pv 2)) (blkOk_by (N := ["_law_orchard_here", "_law_way", "_law_corners", "_law_teeth", "_law_tooth", "_law_high", "_law_deep", "_law_factor", "_law_by", "_law_x", "_law_y", "_law_at"]) (sc := defScope s_law_fence) (by decide +kernel)) (fun _ _ _ _ _ => (tgk K 2 rfl (pgs_cons (pg_name (i := 9) scLawFence.nd rfl (Or.inl rfl)) (pgs_cons (pg_name (i := 10) scLawFence.nd rfl (Or.inl rfl)) pgs_nil)))) (fun _ _ _ _ _ => pts_nil) (fun _ _ _ _ _ => (pe_tup (pa_cons (pe_op op_add (pe_op op_mul (pv 7) (pv 9)) (ixk K (pv 8) pe_int)) (pa_cons (pe_op op_add (pe_op op_mul (pv 7) (pv 10)) (ixk K (pv 8) pe_int)) pa_nil)))))
 (pss_cons (ps_set (i := 11) scLawFence.nd rfl (Or.inl rfl) (pe_c C_law_prune hr (by decide) rfl (pa_cons (pv 0) (pa_cons (pe_callB call_len_seq (by rfl) B.len (by decide +kernel) (pa_cons (pv 2) pa_nil)) pa_nil))))
 (pss_cons (ps_set (i := 2) scLawFence.nd rfl (Or.inl rfl) (pe_op op_cat (pe_slice sl_list (pv 2) (po_some (pv 11)) po_none) (pe_slice sl_list (pv 2) po_none (po_some (pv 11)))))
 (pss_one (ps_ret (pe_ifExp (pt_cmpR op_eq (pe_c C_law_prune hr (by decide) rfl (pa_cons (pv 0) (pa_cons pe_int pa_nil))) pe_int (nomark _)) (pe_revL (pe_lc (own := [("_law_x", 9), ("_law_y", 10)]) rfl scLawFence.nd (pi_list (pv 2)) (blkOk_by (N := ["_law_orchard_here", "_law_way", "_law_corners", "_law_teeth", "_law_tooth", "_law_high", "_law_deep", "_law_factor", "_law_by", "_law_x", "_law_y", "_law_at"]) (sc := defScope s_law_fence) (by decide +kernel)) (fun _ _ _ _ _ => (tgk K 2 rfl (pgs_cons (pg_name (i := 9) scLawFence.nd rfl (Or.inl rfl)) (pgs_cons (pg_name (i := 10) scLawFence.nd rfl (Or.inl rfl)) pgs_nil)))) (fun _ _ _ _ _ => pts_nil) (fun _ _ _ _ _ => (pe_tup (pa_cons (pe_un un_neg (pv 9)) (pa_cons (pv 10) pa_nil)))))) (pv 2))))))))))), ?_⟩
    refine ⟨_, rfl, O, 4, b, rfl, hO, by omega, by decide, by decide, fun H1 way w0 w1 bx1 o1 => ?_⟩
    -- the corners ahead of the comb
    refine ⟨fun σ H' => Bx O H H' ∧ Orch H' O (b + 60) ∧ ∃ L us ps, σ = [some (.ref O), some (.int way), some (.ref L), none, none, none, none, none, none, none, none, none] ∧ L ≠ O ∧ H' L = some (.lst us) ∧ Pts H' us ps ∧ Fen ps ∧ Bd 12 ps ∧ ps.length ≤ 21, ?_, fun σ H2 hm => ?_⟩
    · refine ⟨_, rfl, _, _, rfl, rfl, _, rfl, ite_t (fun hw => ?_) (fun hw => ?_)⟩
      · refine ⟨_, rfl, _, rfl, O, 16, _, rfl, o1, by omega, by decide, by decide, fun H2 u u0 u1 bx2 o2 => ⟨_, _, rfl, rfl, O, 3 + u, _, rfl, o2, by omega, by omega, by omega, fun H3 L us ps bx3 o3 nL eL pp fe bd ln => ?_⟩⟩
        exact ⟨(bx1.trans bx2).trans bx3, o3.mono (by omega), L, us, ps, rfl, nL, eL, pp, fe, bd.mono (by omega), ln⟩
      · refine ⟨_, rfl, O, 4, _, rfl, o1, by omega, by decide, by decide, fun H2 u u0 u1 bx2 o2 => ?_⟩
        obtain ⟨n, rfl⟩ := Int.eq_ofNat_of_zero_le u0
        refine ⟨_, _, rfl, rfl, 3 + n, rfl, by omega, by omega, fun H3 L us s3 nL eL pp => ?_⟩
        obtain ⟨bd, ln⟩ := curl_bd (3 + n) (by omega) (by omega)
        exact ⟨(bx1.trans bx2).same s3, (o2.same s3).mono (by omega), L, us, _, rfl, o2.neN nL, eL, pp, curl_fen _ (by omega) (by omega), bd.mono (by omega), by omega⟩
    obtain ⟨bx2, o2, L, us, ps, rfl, nL, eL, pp, fe, bd, ln⟩ := hm
    refine ⟨fun σ H' => Bx O H H' ∧ Orch H' O (b + 80) ∧ ∃ L us ps o3 o4 o5 o6, σ = [some (.ref O), some (.int way), some (.ref L), o3, o4, o5, o6, none, none, none, none, none] ∧ L ≠ O ∧ H' L = some (.lst us) ∧ Pts H' us ps ∧ Fen ps ∧ Bd 12 ps ∧ ps.length ≤ 21, ?_, fun σ H3 hm => ?_⟩
    · refine ⟨_, rfl, rfl, _, rfl, ite_t (fun hw => ?_) (fun hw => ⟨bx2, o2.mono (by omega), L, us, ps, _, _, _, _, rfl, nL, eL, pp, fe, bd, ln⟩)⟩
      refine ⟨_, rfl, O, 3, _, rfl, o2, by omega, by decide, by decide, fun H3 n n0 n1 bx3 o3 => ⟨_, _, rfl, rfl, ?_⟩⟩
      obtain ⟨N, hN⟩ : ∃ N : Nat, 1 + n = (N : Int) := ⟨(1 + n).toNat, by omega⟩
      show gName 3 (V.int (1 + n)) _ _ _
      rw [hN]
      have N1 : 1 ≤ N := by omega
      have N3 : N ≤ 3 := by omega
      have bx03 := bx2.trans bx3
      have rg : RgC (N : Int) 0 (-1) N := by
        have := RgC.neg (i := (N : Int)) (j := 0) (by omega) (by omega) (by omega) (by omega)
        rwa [Int.sub_zero, Int.toNat_natCast] at this
      refine ⟨by show 2 ≤ sizeLine; decide, fun T1 h1 => ⟨_, rfl, _, _, rfl, rfl, .inl ⟨by decide, by decide⟩, by show 2 ≤ sizeLine; decide, fun T2 h2 => ⟨by show 2 ≤ sizeLine; decide, fun L0 hL0 => ?_⟩⟩⟩
      have u1 := sameU (o := .tup [.int 0, .int 0]) (Same.refl H3) h1
      have u2 := sameU (o := .tup [.int (3 * N), .int 0]) (Same.refl _) h2
      have u3 := sameU (o := .lst [.ref T1, .ref T2]) (Same.refl _) hL0
      have g1 := u3 _ _ (u2 _ _ (upd_same (H := H3) (a := T1) (o := .tup [.int 0, .int 0])))
      have g2 := u3 _ _ (upd_same (H := upd H3 T1 (.tup [.int 0, .int 0])) (a := T2) (o := .tup [.int (3 * N), .int 0]))
      have g3 := upd_same (H := upd (upd H3 T1 (.tup [.int 0, .int 0])) T2 (.tup [.int (3 * N), .int 0])) (a := L0) (o := .lst [.ref T1, .ref T2])
      have u12 : Same H3 (upd (upd H3 T1 (.tup [.int 0, .int 0])) T2 (.tup [.int (3 * N), .int 0])) := fun b u q => u2 _ _ (u1 _ _ q)
      have hL00 : H L0 = none := (bx03.same u12).fresh (o3.same u12) hL0
      have nL0 : L0 ≠ O := (o3.same u12).neN hL0
      show tSeq _ _ _ _ (upd (upd (upd H3 T1 (.tup [.int 0, .int 0])) T2 (.tup [.int (3 * N), .int 0])) L0 (.lst [.ref T1, .ref T2]))
      have u13 : Same H3 (upd (upd (upd H3 T1 (.tup [.int 0, .int 0])) T2 (.tup [.int (3 * N), .int 0])) L0 (.lst [.ref T1, .ref T2])) := fun b u q => u3 _ _ (u12 _ _ q)
      generalize upd (upd (upd H3 T1 (.tup [.int 0, .int 0])) T2 (.tup [.int (3 * N), .int 0])) L0 (.lst [.ref T1, .ref T2]) = H4 at g1 g2 g3 u13 ⊢
      have bx04 := bx03.same u13
      have o4 := o3.same u13
      refine ⟨_, rfl, _, rfl, N, 0, -1, N, rfl, rg, ?_⟩
      refine for_it (walk_rangeC (lo := (N : Int)) (c := -1) (n := N)) (fun i σ H' => Bx O H H' ∧ Orch H' O (b + 61 + 3 * i) ∧ ∃ L us t o4 o5 o6, σ = [some (.ref O), some (.int way), some (.ref L), some (.int N), o4, o5, o6, none, none, none, none, none] ∧ H L = none ∧ L ≠ O ∧ H' L = some (.lst us) ∧ Pts H' us ((0, 0) :: (3 * (N : Int), 0) :: teethL t) ∧ t.map (·.1) = (List.range i).map (fun j : Nat => (N : Int) + (j : Int) * -1) ∧ ∀ x ∈ t, dr3 x.2)
        ⟨bx04, o4.mono (by omega), L0, _, [], _, _, _, rfl, hL00, nL0, g3, .cons ⟨T1, rfl, g1⟩ (.cons ⟨T2, rfl, g2⟩ .nil), rfl, fun x hx => by cases hx⟩ (fun _ _ _ _ _ => trivial) (fun i y σ H0 H' hi p Y => ?_) (fun σ H' p => ?_)
      · obtain ⟨rfl, rfl⟩ := Y
        obtain ⟨bxi, oi, L, us, t, q4, q5, q6, rfl, hL, nL, eL, pp, et, dt⟩ := p
        have i3 : i < 3 := by omega
        refine ⟨_, rfl, O, 2, _, rfl, oi, by omega, by decide, by decide, fun Ha hi' a0 a1 bxa oa => ⟨_, _, rfl, rfl, _, rfl, O, 2, _, rfl, oa, by omega, by decide, by decide, fun Hb de d0 d1 bxb ob => ⟨_, _, rfl, rfl, _, _, rfl, ?_⟩⟩⟩
        refine ⟨_, rfl, _, rfl, _, _, rfl, rfl, .inl ⟨by decide, by decide⟩, _, rfl, by show 2 ≤ sizeLine; decide, fun T1 h1 => ?_⟩
        have v1 := sameU (o := .tup [.int (3 * ((N : Int) + (i : Int) * -1)), .int (3 + hi')]) (Same.refl Hb) h1
        refine ⟨_, rfl, _, _, rfl, rfl, .inl ⟨by decide, by decide⟩, _, _, rfl, rfl, _, rfl, by show 2 ≤ sizeLine; decide, fun T2 h2 => ?_⟩
        have v2 := sameU (o := .tup [.int (3 * ((N : Int) + (i : Int) * -1) - 1), .int (3 + hi')]) (Same.refl _) h2
        have g1 := v2 _ _ (upd_same (H := Hb) (a := T1) (o := .tup [.int (3 * ((N : Int) + (i : Int) * -1)), .int (3 + hi')]))
        have g2 := upd_same (H := upd Hb T1 (.tup [.int (3 * ((N : Int) + (i : Int) * -1)), .int (3 + hi')])) (a := T2) (o := .tup [.int (3 * ((N : Int) + (i : Int) * -1) - 1), .int (3 + hi')])
        have v12 : Same Hb (upd (upd Hb T1 (.tup [.int (3 * ((N : Int) + (i : Int) * -1)), .int (3 + hi')])) T2 (.tup [.int (3 * ((N : Int) + (i : Int) * -1) - 1), .int (3 + hi')])) := fun b u q => v2 _ _ (v1 _ _ q)
        show tCons _ _ _ (upd (upd Hb T1 (.tup [.int (3 * ((N : Int) + (i : Int) * -1)), .int (3 + hi')])) T2 (.tup [.int (3 * ((N : Int) + (i : Int) * -1) - 1), .int (3 + hi')])) _
        generalize upd (upd Hb T1 (.tup [.int (3 * ((N : Int) + (i : Int) * -1)), .int (3 + hi')])) T2 (.tup [.int (3 * ((N : Int) + (i : Int) * -1) - 1), .int (3 + hi')]) = Hd at g1 g2 v12 ⊢
        have od := ob.same v12
        have bxd : Bx O H Hd := ((bxi.trans bxa).trans bxb).same v12
        refine ⟨_, rfl, _, _, rfl, rfl, .inl ⟨by decide, by decide⟩, _, _, rfl, rfl, _, rfl, O, 2, _, rfl, od, by omega, by decide, by decide, fun He e e0 e1 bxe oe => ⟨_, _, rfl, rfl, _, rfl, by show 2 ≤ sizeLine; decide, fun T3 h3 => ⟨by show 3 ≤ sizeLine; decide, fun l hl => ?_⟩⟩⟩
        have v3 := sameU (o := .tup [.int (3 * ((N : Int) + (i : Int) * -1) - 1 - e), .int (1 + de)]) (Same.refl _) h3
        have v4 := sameU (o := .lst [.ref T1, .ref T2, .ref T3]) (Same.refl _) hl
        have kde := bxe.ktO od
        have g1 := v4 _ _ (v3 _ _ (kde _ _ g1))
        have g2 := v4 _ _ (v3 _ _ (kde _ _ g2))
        have g3 := v4 _ _ (upd_same (H := He) (a := T3) (o := .tup [.int (3 * ((N : Int) + (i : Int) * -1) - 1 - e), .int (1 + de)]))
        have kt : Kt H' He := fun c xs q => kde _ _ (v12 _ _ ((bxb.ktO oa) _ _ ((bxa.ktO oi) _ _ q)))
        have ppe : Pts He us ((0, 0) :: (3 * (N : Int), 0) :: teethL t) := Paired.kt pt_kt kt pp
        have eLe : He L = some (.lst us) := bxe _ _ nL (v12 _ _ (bxb _ _ nL (bxa _ _ nL eL)))
        have v34 : Same He (upd (upd He T3 (.tup [.int (3 * ((N : Int) + (i : Int) * -1) - 1 - e), .int (1 + de)])) l (.lst [.ref T1, .ref T2, .ref T3])) := fun b u q => v4 _ _ (v3 _ _ q)
        have lt : t.length = i := by
          have := congrArg List.length et
          simpa using this
        have lus : us.length = 2 + 3 * i := by
          rw [pp.length, List.length_cons, List.length_cons, teethL_len, lt]
          omega
        refine ⟨L, l, us, _, rfl, rfl, v34 _ _ eLe, upd_same, ?_, fun M hM => ?_⟩
        · show us.length + 3 ≤ sizeLine
          exact Nat.le_trans (show us.length + 3 ≤ 21 by omega) (by decide)
        have v5 := sameU (o := .lst (us ++ [.ref T1, .ref T2, .ref T3])) (Same.refl _) hM
        have w5 : Same He (upd (upd (upd He T3 (.tup [.int (3 * ((N : Int) + (i : Int) * -1) - 1 - e), .int (1 + de)])) l (.lst [.ref T1, .ref T2, .ref T3])) M (.lst (us ++ [.ref T1, .ref T2, .ref T3]))) := fun b u q => v5 _ _ (v34 _ _ q)
        have o34 := oe.same v34
        have bx34 := (bxd.trans bxe).same v34
        refine ⟨(bxd.trans bxe).same w5, (oe.same w5).mono (by omega), M, _, t ++ [((N : Int) + (i : Int) * -1, hi', de, e)], _, _, _, rfl, bx34.fresh o34 hM, o34.neN hM, upd_same, ?_, ?_, fun x hx => ?_⟩
        · rw [teethL_snoc]
          exact Paired.app (ys := (0, 0) :: (3 * (N : Int), 0) :: teethL t) (Paired.kt pt_kt (same_kt w5) ppe) (.cons ⟨T1, rfl, v5 _ _ g1⟩ (.cons ⟨T2, rfl, v5 _ _ g2⟩ (.cons ⟨T3, rfl, v5 _ _ g3⟩ .nil)))
        · rw [List.map_append, et, List.range_succ, List.map_append]
          rfl
        · rcases List.mem_append.mp hx with hx | hx
          · exact dt x hx
          · rw [List.mem_singleton.mp hx]
            exact ⟨⟨a0, a1⟩, ⟨d0, d1⟩, e0, e1⟩
      · obtain ⟨bxi, oi, L, us, t, q4, q5, q6, rfl, hL, nL, eL, pp, et, dt⟩ := p
        obtain ⟨fc, bc, lc⟩ := comb_ok N1 N3 et dt
        have lt : t.length = N := by
          have := congrArg List.length et
          simpa using this
        have lus : us.length = 2 + 3 * N := by
          rw [pp.length, List.length_cons, List.length_cons, teethL_len, lt]
          omega
        refine ⟨_, rfl, .inl ⟨rfl, _, sql eL⟩, by show 2 ≤ sizeLine; decide, fun T hT => ?_⟩
        have v1 := sameU (o := .tup [.int 0, .int 3]) (Same.refl _) hT
        refine ⟨L, us, .ref T, rfl, rfl, v1 _ _ eL, Nat.lt_of_lt_of_le (show us.length < 22 by omega) (by decide), ?_⟩
        have o5 := oi.same v1
        obtain ⟨xh, vh, eh⟩ := pts_head pp
        have kt := kt_upd (o := .lst (us ++ [.ref T])) (v1 _ _ eL)
        have nI := noInts (us := vh) (by rw [← eh]; exact v1 _ _ eL)
        refine ⟨(bxi.same v1).newU hL, (o5.updN nL nI).mono (by omega), L, us ++ [.ref T], combL N t, _, _, _, _, rfl, nL, upd_same, ?_, fc, bc, lc⟩
        have e : combL N t = ((0, 0) :: (3 * (N : Int), 0) :: teethL t) ++ [(0, 3)] := by
          unfold combL
          simp
        rw [e]
        exact Paired.snoc (Paired.kt pt_kt kt (Paired.kt pt_kt (same_kt v1) pp)) ⟨T, rfl, kt _ _ upd_same⟩
    obtain ⟨bx3, o3, L, us, ps, q3, q4, q5, q6, rfl, nL, eL, pp, fe, bd, ln⟩ := hm
    have hlu : us.length = ps.length := pp.length
    have h0 : 0 < ps.length := by have := fe.s.len; omega
    refine ⟨_, rfl, O, 2, _, rfl, o3, by omega, by decide, by decide, fun Ha k0 k1 k2 bxa oa => ⟨_, _, rfl, rfl, _, rfl, O, 9, _, rfl, oa, by omega, by decide, by decide, fun Hb p0 p1 p2 bxb ob => ⟨_, _, rfl, rfl, _, rfl, O, 9, _, rfl, ob, by omega, by decide, by decide, fun Hc q0 q1 q2 bxc oc => ⟨_, _, rfl, rfl, by show 2 ≤ sizeLine; decide, fun Tb hTb => ⟨by show 2 ≤ sizeLine; decide, fun Tt hTt => ?_⟩⟩⟩⟩⟩
    have v1 := sameU (o := .tup [.int (p0 - 4), .int (q0 - 4)]) (Same.refl Hc) hTb
    have v2 := sameU (o := .tup [.int (1 + k0), .ref Tb]) (Same.refl _) hTt
    have g1 := v2 _ _ (upd_same (H := Hc) (a := Tb) (o := .tup [.int (p0 - 4), .int (q0 - 4)]))
    have g2 := upd_same (H := upd Hc Tb (.tup [.int (p0 - 4), .int (q0 - 4)])) (a := Tt) (o := .tup [.int (1 + k0), .ref Tb])
    have v12 : Same Hc (upd (upd Hc Tb (.tup [.int (p0 - 4), .int (q0 - 4)])) Tt (.tup [.int (1 + k0), .ref Tb])) := fun b u q => v2 _ _ (v1 _ _ q)
    refine ⟨Tt, _, rfl, sqt upd_same, rfl, _, _, rfl, ?_⟩
    refine ⟨_, _, rfl, ?_⟩
    refine ⟨rfl, ?_⟩
    generalize upd (upd Hc Tb (.tup [.int (p0 - 4), .int (q0 - 4)])) Tt (.tup [.int (1 + k0), .ref Tb]) = Hd at g1 g2 v12 ⊢
    have od := oc.same v12
    have kt : Kt H3 Hd := fun c xs q => v12 _ _ ((bxc.ktO ob) _ _ ((bxb.ktO oa) _ _ ((bxa.ktO o3) _ _ q)))
    have bxd : Bx O H Hd := (((bx3.trans bxa).trans bxb).trans bxc).same v12
    have eLd := v12 _ _ (bxc _ _ nL (bxb _ _ nL (bxa _ _ nL eL)))
    have ppd : Pts Hd us ps := Paired.kt pt_kt kt pp
    have hby : IsPt Hd (.ref Tb) (p0 - 4, q0 - 4) := ⟨Tb, rfl, g1⟩
    have hsz : us.length ≤ sizeLine := Nat.le_trans (show us.length ≤ 21 by omega) (by decide)
    refine ⟨_, rfl, L, rfl, ⟨_, sql eLd⟩, fun D hD => ?_⟩
    refine lc_gen (walk_list (xs := us)) ps (fun _ => true) (grow (1 + k0) (p0 - 4, q0 - 4)) IsPt hlu.symm hsz pt_kt hD (fun H s => sql (s _ _ eLd)) (fun i e y H0 H' Ny Ns ee s Y hy _ => ?_) (fun ys He se eD pD => ?_)
    · obtain ⟨rfl, ey⟩ := Y
      obtain ⟨y2, ey2, r⟩ := Paired.at2 ppd ee
      rw [ey] at ey2
      cases ey2
      obtain ⟨T, rfl, hT⟩ := r
      have hb := hby.same s
      refine ⟨T, _, rfl, sqt (s _ _ hT), rfl, _, _, rfl, ?_⟩
      refine ⟨_, _, rfl, ?_⟩
      refine ⟨rfl, rfl, ?_⟩
      refine ⟨_, rfl, _, rfl, _, _, rfl, rfl, .inl ⟨by omega, by omega⟩, _, rfl, hb.i0 ⟨_, _, rfl, rfl, ?_⟩⟩
      refine ⟨_, rfl, _, rfl, _, _, rfl, rfl, .inl ⟨by omega, by omega⟩, _, rfl, hb.i1 ⟨_, _, rfl, rfl, by show 2 ≤ sizeLine; decide, fun T2 hT2 => ?_⟩⟩
      exact hy rfl _ _ (sameU (Same.refl _) hT2) ⟨T2, rfl, upd_same⟩
    rw [filter_yes] at pD
    have oe := od.same se
    have bxe := bxd.same se
    have nD : D ≠ O := od.neN hD
    have fe2 : Fen (ps.map (grow (1 + k0) (p0 - 4, q0 - 4))) := fe.grow (by omega) _
    have bd2 : Bd 40 (ps.map (grow (1 + k0) (p0 - 4, q0 - 4))) := fun v hv => by
      obtain ⟨q, hq, rfl⟩ := List.mem_map.mp hv
      have := bd q hq
      have c : k0 = 0 ∨ k0 = 1 := by omega
      unfold grow
      rcases c with rfl | rfl
      all_goals
        simp only
        omega
    have ln2 : (ps.map (grow (1 + k0) (p0 - 4, q0 - 4))).length = ps.length := List.length_map ..
    generalize ps.map (grow (1 + k0) (p0 - 4, q0 - 4)) = rs at pD fe2 bd2 ln2
    have ly : ys.length = rs.length := pD.length
    refine ⟨_, rfl, _, rfl, D, ys, rfl, .inl (sql eD), ?_⟩
    refine ⟨O, (ys.length : Nat), _, rfl, oe, by omega, by omega, by omega, fun Hf at_ t0 t1 bxf of_ => ?_⟩
    obtain ⟨n, rfl⟩ := Int.eq_ofNat_of_zero_le t0
    have hn : n < ys.length := by omega
    have eD2 := bxf _ _ nD eD
    have pD2 : Pts Hf ys rs := Paired.kt pt_kt (bxf.ktO oe) pD
    have bxF := bxe.trans bxf
    have c1 : cutV ys (some (n : Int)) none = ys.drop n := cutA (by omega)
    have c2 : cutV ys none (some (n : Int)) = ys.take n := cutT n
    refine ⟨_, rfl, _, rfl, _, rfl, D, ys, rfl, sql eD2, fun l1 hl1 => ?_⟩
    rw [c1]
    have x1 := sameU (o := .lst (ys.drop n)) (Same.refl Hf) hl1
    refine ⟨_, rfl, _, rfl, _, rfl, D, ys, rfl, sql (x1 _ _ eD2), fun l2 hl2 => ?_⟩
    rw [c2]
    have x2 := sameU (o := .lst (ys.take n)) (Same.refl _) hl2
    refine ⟨l1, l2, _, _, rfl, rfl, x2 _ _ upd_same, upd_same, ?_, fun R hR => ?_⟩
    · rw [← List.length_append]
      exact Nat.le_trans (show (ys.drop n ++ ys.take n).length ≤ 21 by simp; omega) (by decide)
    have x3 := sameU (o := .lst (ys.drop n ++ ys.take n)) (Same.refl _) hR
    have x13 : Same Hf (upd (upd (upd Hf l1 (.lst (ys.drop n))) l2 (.lst (ys.take n))) R (.lst (ys.drop n ++ ys.take n))) := fun b u q => x3 _ _ (x2 _ _ (x1 _ _ q))
    have eR := upd_same (H := upd (upd Hf l1 (.lst (ys.drop n))) l2 (.lst (ys.take n))) (a := R) (o := .lst (ys.drop n ++ ys.take n))
    have nR : R ≠ O := (of_.same fun b u q => x2 _ _ (x1 _ _ q)).neN hR
    have pR : Pts (upd (upd (upd Hf l1 (.lst (ys.drop n))) l2 (.lst (ys.take n))) R (.lst (ys.drop n ++ ys.take n))) (ys.drop n ++ ys.take n) (rs.drop n ++ rs.take n) := Paired.kt pt_kt (same_kt x13) (Paired.app (Paired.drop n pD2) (Paired.take n pD2))
    have fR : Fen (rs.drop n ++ rs.take n) := Fen.rot (by rw [List.take_append_drop]; exact fe2)
    have bR : Bd 40 (rs.drop n ++ rs.take n) := fun v hv => by
      rcases List.mem_append.mp hv with g | g
      · exact bd2 v (List.mem_of_mem_drop g)
      · exact bd2 v (List.mem_of_mem_take g)
    have lR : (rs.drop n ++ rs.take n).length ≤ 21 := by simp; omega
    generalize upd (upd (upd Hf l1 (.lst (ys.drop n))) l2 (.lst (ys.take n))) R (.lst (ys.drop n ++ ys.take n)) = Hr at x13 eR pR ⊢
    generalize rs.drop n ++ rs.take n = zs at pR fR bR lR
    generalize ys.drop n ++ ys.take n = zu at eR pR
    have oR := of_.same x13
    have bxR := bxF.same x13
    have lz : zu.length = zs.length := pR.length
    refine ⟨_, rfl, O, 3, _, rfl, oR, by omega, by decide, by decide, fun Hg m m0 m1 bxg og => ⟨rfl, _, rfl, ite_t (fun hm => ?_) (fun hm => ?_)⟩⟩
    all_goals
      have eRg := bxg _ _ nR eR
      have pRg : Pts Hg zu zs := Paired.kt pt_kt (bxg.ktO oR) pR
    · refine ⟨_, rfl, R, rfl, ⟨_, sql eRg⟩, fun D2 hD2 => ?_⟩
      refine lc_gen (walk_list (xs := zu)) zs (fun _ => true) mir IsPt lz.symm (Nat.le_trans (show zu.length ≤ 21 by omega) (by decide)) pt_kt hD2 (fun H s => sql (s _ _ eRg)) (fun i e y H0 H' Ny Ns ee s Y hy _ => ?_) (fun ws Hh sh eh ph => ?_)
      · obtain ⟨rfl, ey⟩ := Y
        obtain ⟨y2, ey2, r⟩ := Paired.at2 pRg ee
        rw [ey] at ey2
        cases ey2
        obtain ⟨T, rfl, hT⟩ := r
        refine ⟨T, _, rfl, sqt (s _ _ hT), rfl, _, _, rfl, ?_⟩
        refine ⟨_, _, rfl, ?_⟩
        refine ⟨rfl, rfl, ?_⟩
        refine ⟨_, rfl, _, rfl, _, rfl, by show 2 ≤ sizeLine; decide, fun T2 hT2 => ?_⟩
        exact hy rfl _ _ (sameU (Same.refl _) hT2) ⟨T2, rfl, upd_same⟩
      · rw [filter_yes] at ph
        refine ⟨D2, ws, rfl, sql eh, fun M hM => ?_⟩
        have s3 := sameU (o := .lst ws.reverse) (Same.refl Hh) hM
        have s4 : Same Hg (upd Hh M (.lst ws.reverse)) := fun b u q => s3 _ _ (sh _ _ q)
        refine k _ M ws.reverse (zs.map mir).reverse ((bxR.trans bxg).same s4) ((og.same s4).mono (by omega)) ((og.same sh).neN hM) upd_same (paired_rev (Paired.kt pt_kt (same_kt s3) ph)) fR.mir (fun v hv => ?_) (by rw [List.length_reverse, List.length_map]; exact lR)
        obtain ⟨q, hq, rfl⟩ := List.mem_map.mp (List.mem_reverse.mp hv)
        have := bR q hq
        unfold mir
        simp only
        omega
    · exact ⟨_, rfl, k _ R zu zs (bxR.trans bxg) (og.mono (by omega)) nR eRg pRg fR bR lR⟩
end
end Bay
namespace Bay
open PySem PySem.Spec PyProof.Rows L2
open C8 (Cal pe_c Mak pe_mk)
section
variable {P : Program} {w : World} {K : PySem.W.Frag} {mg : Str → Option Value} {base : Heap}
theorem first_at {p : Pt} : ∀ {ps : List Pt}, p ∈ ps → ∃ j : Nat, ps[j]? = some p ∧ ∀ (m : Nat) (q : Pt), m < j → ps[m]? = some q → q ≠ p
  | a :: t, h => by
    by_cases e : a = p
    · exact ⟨0, by simp [e], fun m q hm _ => by omega⟩
    · rcases List.mem_cons.mp h with z | h
      · exact absurd z.symm e
      · obtain ⟨j, h1, h2⟩ := first_at h
        refine ⟨j + 1, h1, fun m q hm hq => ?_⟩
        cases m with
        | zero =>
          cases hq
          exact e
        | succ m => exact h2 m q (by omega) hq
def spBegun : Sp := fun vs H Q _ => ∃ (L : Addr) (us : List V) (ps : List Pt), vs = [.ref L] ∧ H L = some (.lst us) ∧ Pts H us ps ∧ 0 < ps.length ∧ ps.length ≤ 1000 ∧ ∀ H' T ts B, Same H H' → H' T = some (.tup ts) → Pts H' ts B → IsBegun ps B → Q (.ref T) H'
theorem scLawBegun : FnScope ["_law_corners", "_law_at"] ["_law_corners"] (defScope s_law_begun) := ⟨rfl, rfl, rfl, by decide +kernel, rfl, by decide +kernel, by decide +kernel⟩
theorem c_law_begun (B : Bn mg) (F : Has K mg "_law_begun" s_law_begun ["_law_corners"]) : Cal P w K mg base 1 "_law_begun" spBegun [] := by
  refine F.cal scLawBegun (fun vs H Q E h => ?_) (fun f cdv A outer s H vs Q E hr h => ?_)
  · obtain ⟨_, _, _, rfl, _⟩ := h
    rfl
  · obtain ⟨L, us, ps, rfl, eL, pp, h0, h1, k⟩ := h
    refine ⟨_, (pss_cons (ps_set (i := 1) scLawBegun.nd rfl (Or.inl rfl) (pe_bm PySem.F.plainAttrs_list PySem.F.slot_list_index PySem.F.type_list_index (mt_indexD hr.units65) (pe_callTy call_list_of (by rfl) B.list (by decide +kernel) (pa_cons (pv 0) pa_nil)) (pa_cons (pe_callB (cr_minPt false K rfl rfl hr.units) (by rfl) B.min (by decide +kernel) (pa_cons (pv 0) pa_nil)) pa_nil)))
 (pss_one (ps_ret (pe_callTy call_tuple_of (by rfl) B.tuple (by decide +kernel) (pa_cons (pe_op op_cat (pe_callTy call_list_of (by rfl) B.list (by decide +kernel) (pa_cons (pe_slice sl_list (pv 0) (po_some (pv 1)) po_none) pa_nil)) (pe_callTy call_list_of (by rfl) B.list (by decide +kernel) (pa_cons (pe_slice sl_list (pv 0) po_none (po_some (pv 1))) pa_nil))) pa_nil))))), ?_⟩
    have hlu : us.length = ps.length := pp.length
    refine ⟨_, rfl, L, us, rfl, .inl (sql eL), fun L1 hL1 => ?_⟩
    have s1 := sameU (o := .lst us) (Same.refl H) hL1
    have e1 : (upd H L1 (.lst us)) L1 = some (.lst us) := upd_same
    have pp1 : Pts (upd H L1 (.lst us)) us ps := Paired.kt pt_kt (same_kt s1) pp
    have eL1 := s1 _ _ eL
    generalize upd H L1 (.lst us) = H1 at s1 e1 pp1 eL1 ⊢
    refine ⟨.inl ⟨rfl, _, sql e1⟩, _, rfl, L, us, ps, rfl, sql eL1, pp1, h0, fun v p hm hmin hv => ?_⟩
    obtain ⟨j, hj, hno⟩ := first_at hm
    obtain ⟨hj1, hj2⟩ := List.getElem?_eq_some_iff.mp hj
    refine ⟨L1, v, dPt p, ps.map dPt, j, dPt p, rfl, rfl, .lst (sql e1) (dp_pts pp1), dp_pt hv, shp_pts ps, rfl, by rw [List.getElem?_map, hj]; rfl, by rw [eqv_pt]; exact decide_eq_true rfl, fun m z hz em => ?_, ?_⟩
    · rw [List.getElem?_map] at em
      obtain ⟨q, eq, rfl⟩ := Option.map_eq_some_iff.mp em
      rw [eqv_pt]
      exact decide_eq_false (hno m q hz eq)
    have c1 : cutV us (some (j : Int)) none = us.drop j := cutA (by omega)
    have c2 : cutV us none (some (j : Int)) = us.take j := cutT j
    refine ⟨_, rfl, _, rfl, _, rfl, L, us, rfl, sql eL1, fun a1 ha1 => ?_⟩
    rw [c1]
    have x1 := sameU (o := .lst (us.drop j)) (Same.refl H1) ha1
    refine ⟨a1, _, rfl, .inl (sql upd_same), fun a2 ha2 => ?_⟩
    have x2 := sameU (o := .lst (us.drop j)) x1 ha2
    have g2 := upd_same (H := upd H1 a1 (.lst (us.drop j))) (a := a2) (o := .lst (us.drop j))
    refine ⟨_, rfl, _, rfl, _, rfl, L, us, rfl, sql (x2 _ _ eL1), fun a3 ha3 => ?_⟩
    rw [c2]
    have y3 := sameU (o := .lst (us.take j)) (Same.refl _) ha3
    refine ⟨a3, _, rfl, .inl (sql upd_same), fun a4 ha4 => ?_⟩
    have y4 := sameU (o := .lst (us.take j)) y3 ha4
    refine ⟨a2, a4, _, _, rfl, rfl, y4 _ _ g2, upd_same, ?_, fun a5 ha5 => ?_⟩
    · rw [← List.length_append]
      exact Nat.le_trans (show (us.drop j ++ us.take j).length ≤ 1000 by simp; omega) (by decide)
    have y5 := sameU (o := .lst (us.drop j ++ us.take j)) y4 ha5
    refine ⟨a5, _, rfl, .inl ⟨sql upd_same, fun T hT => ?_⟩⟩
    have y6 := sameU (o := .tup (us.drop j ++ us.take j)) y5 hT
    have sF : Same H1 _ := fun b u q => y6 _ _ (x2 _ _ q)
    refine k _ T _ (ps.drop j ++ ps.take j) (fun b u q => sF _ _ (s1 _ _ q)) upd_same ?_ ⟨j, hj1, fun q hq => by rw [hj2]; exact hmin q hq, rfl⟩
    have p4 := Paired.kt pt_kt (same_kt sF) pp1
    exact Paired.app (Paired.drop _ p4) (Paired.take _ p4)
def spQuarter : Sp := fun vs H Q _ => ∃ (L : Addr) (us : List V) (ps : List Pt), vs = [.ref L] ∧ H L = some (.lst us) ∧ Pts H us ps ∧ ps.length ≤ 1000 ∧ ∀ H' D ds, Same H H' → H D = none → H' D = some (.lst ds) → Pts H' ds (ps.map quar) → Q (.ref D) H'
theorem scLawQuarter : FnScope ["_law_corners", "_law_x", "_law_y"] ["_law_corners"] (defScope s_law_quarter) := ⟨rfl, rfl, rfl, by decide +kernel, rfl, by decide +kernel, by decide +kernel⟩
theorem c_law_quarter (F : Has K mg "_law_quarter" s_law_quarter ["_law_corners"]) : Cal P w K mg base 1 "_law_quarter" spQuarter [] := by
  refine F.cal scLawQuarter (fun vs H Q E h => ?_) (fun f cdv A outer s H vs Q E hr h => ?_)
  · obtain ⟨_, _, _, rfl, _⟩ := h
    rfl
  · obtain ⟨L, us, ps, rfl, eL, pp, h1, k⟩ := h
    refine ⟨_, (pss_one (ps_ret (pe_lc (own := [("_law_x", 1), ("_law_y", 2)]) rfl scLawQuarter.nd (pi_list (pv 0)) (blkOk_by (N := ["_law_corners", "_law_x", "_law_y"]) (sc := defScope s_law_quarter) (by decide +kernel)) (fun _ _ _ _ _ => (tgk K 2 rfl (pgs_cons (pg_name (i := 1) scLawQuarter.nd rfl (Or.inl rfl)) (pgs_cons (pg_name (i := 2) scLawQuarter.nd rfl (Or.inl rfl)) pgs_nil)))) (fun _ _ _ _ _ => pts_nil) (fun _ _ _ _ _ => (pe_tup (pa_cons (pe_un un_neg (pv 2)) (pa_cons (pv 1) pa_nil))))))), ?_⟩
    have hlu : us.length = ps.length := pp.length
    refine ⟨_, rfl, L, rfl, ⟨_, sql eL⟩, fun D hD => ?_⟩
    refine lc_gen (walk_list (xs := us)) ps (fun _ => true) quar IsPt hlu.symm (Nat.le_trans (show us.length ≤ 1000 by omega) (by decide)) pt_kt hD (fun H s => sql (s _ _ eL)) (fun i e y H0 H' Ny Ns ee s Y hy _ => ?_) (fun ys He se eD pD => ?_)
    · obtain ⟨rfl, ey⟩ := Y
      obtain ⟨y2, ey2, r⟩ := Paired.at2 pp ee
      rw [ey] at ey2
      cases ey2
      obtain ⟨T, rfl, hT⟩ := r
      refine ⟨T, _, rfl, sqt (s _ _ hT), rfl, _, _, rfl, ?_⟩
      refine ⟨_, _, rfl, ?_⟩
      refine ⟨rfl, rfl, ?_⟩
      refine ⟨_, rfl, _, rfl, _, rfl, by show 2 ≤ sizeLine; decide, fun T2 hT2 => ?_⟩
      exact hy rfl _ _ (sameU (Same.refl _) hT2) ⟨T2, rfl, upd_same⟩
    · rw [filter_yes] at pD
      exact k He D ys se hD eD pD
end
end Bay
namespace Bay
open PySem PySem.Spec PyProof.Rows L2
open C8 (Cal pe_c Mak pe_mk)
section
variable {P : Program} {w : World} {K : PySem.W.Frag} {mg : Str → Option Value} {base : Heap}
/-- all is kept but the orchard and one list -/
def Bx2 (O F : Addr) (H H' : Hp) : Prop := ∀ c o, c ≠ O → c ≠ F → H c = some o → H' c = some o
theorem Bx2.refl {O F : Addr} {H : Hp} : Bx2 O F H H := fun _ _ _ _ h => h
theorem Bx2.bx {O F : Addr} {H H1 H2 : Hp} (a : Bx2 O F H H1) (b : Bx O H1 H2) : Bx2 O F H H2 := fun c o n m h => b c o n (a c o n m h)
theorem Bx2.same {O F : Addr} {H H1 H2 : Hp} (a : Bx2 O F H H1) (b : Same H1 H2) : Bx2 O F H H2 := fun c o n m h => b c o (a c o n m h)
theorem Bx2.set {O F : Addr} {H H1 : Hp} {u : HO} (a : Bx2 O F H H1) : Bx2 O F H (upd H1 F u) := fun c o n m h => by
  rw [upd_ne m]
  exact a c o n m h
theorem Bx2.kt {O F : Addr} {H H' : Hp} {b : Int} {xs : List V} (s : Bx2 O F H H') (o : Orch H O b) (h : H F = some (.lst xs)) : Kt H H' := fun c ys e => s c _ (o.ne e) (fun q => by rw [q, h] at e; cases e) e
/-- the orchard, apart from a list that is being filled -/
structure OrX (H : Hp) (O D : Addr) (b : Int) : Prop where
  ne : D ≠ O
  ex : ∃ (c : Addr) (cs : List Int) (t l : Int), H O = some (.lst [.ref c, .int t, .int l]) ∧ H c = some (.lst (cs.map V.int)) ∧ c ≠ O ∧ 0 ≤ t ∧ t ≤ b ∧ 0 ≤ l ∧ cs.length ≤ 60 ∧ c ≠ D
theorem OrX.orch {H : Hp} {O D : Addr} {b : Int} (h : OrX H O D b) : Orch H O b := by
  obtain ⟨c, cs, t, l, h1, h2, h3, h4, h5, h6, h7, _⟩ := h.ex
  exact ⟨c, cs, t, l, h1, h2, h3, h4, h5, h6, h7⟩
theorem OrX.same {H H' : Hp} {O D : Addr} {b : Int} (h : OrX H O D b) (s : Same H H') : OrX H' O D b := by
  obtain ⟨c, cs, t, l, h1, h2, h3⟩ := h.ex
  exact ⟨h.ne, c, cs, t, l, s _ _ h1, s _ _ h2, h3⟩
theorem OrX.mono {H : Hp} {O D : Addr} {b b' : Int} (h : OrX H O D b) (e : b ≤ b') : OrX H O D b' := by
  obtain ⟨c, cs, t, l, h1, h2, h3, h4, h5, h6⟩ := h.ex
  exact ⟨h.ne, c, cs, t, l, h1, h2, h3, h4, by omega, h6⟩
theorem OrX.set {H : Hp} {O D : Addr} {b : Int} {u : HO} (h : OrX H O D b) : OrX (upd H D u) O D b := by
  obtain ⟨c, cs, t, l, h1, h2, h3, h4, h5, h6, h7, h8⟩ := h.ex
  refine ⟨h.ne, c, cs, t, l, ?_, ?_, h3, h4, h5, h6, h7, h8⟩
  · rw [upd_ne (Ne.symm h.ne)]; exact h1
  · rw [upd_ne h8]; exact h2
theorem OrX.new {H : Hp} {O D : Addr} {b : Int} {u : HO} (h : Orch H O b) (n : H D = none) : OrX (upd H D u) O D b := by
  obtain ⟨c, cs, t, l, h1, h2, h3, h4, h5, h6, h7⟩ := h.ex
  have s := sameU (o := u) (Same.refl H) n
  exact ⟨h.neN n, c, cs, t, l, s _ _ h1, s _ _ h2, h3, h4, h5, h6, h7, ne_of_none h2 n⟩
theorem OrX.of {H : Hp} {O D : Addr} {b : Int} {x : Addr} {us : List V} (h : Orch H O b) (n : D ≠ O) (e : H D = some (.lst (.ref x :: us))) : OrX H O D b := by
  obtain ⟨c, cs, t, l, h1, h2, h3, h4, h5, h6, h7⟩ := h.ex
  exact ⟨n, c, cs, t, l, h1, h2, h3, h4, h5, h6, h7, fun q => noInts e cs (by rw [← q]; exact h2)⟩
theorem hv_snoc (E : List ((Pt × Pt) × Bool)) (x : (Pt × Pt) × Bool) : hv (E ++ [x]) = hv E ++ (if x.2 then [dbl x.1.1, addP x.1.1 x.1.2] else [dbl x.1.1]) := by
  unfold hv
  rw [List.flatMap_append]
  simp
theorem hv_len : ∀ E : List ((Pt × Pt) × Bool), (hv E).length ≤ 2 * E.length
  | [] => Nat.le_refl _
  | x :: E => by
    have := hv_len E
    have e : hv (x :: E) = (if x.2 then [dbl x.1.1, addP x.1.1 x.1.2] else [dbl x.1.1]) ++ hv E := rfl
    rw [e, List.length_append, List.length_cons]
    split <;> simp only [List.length_cons, List.length_nil] <;> omega
def spHalved : Sp := fun vs H Q _ => ∃ (O L : Addr) (b : Int) (us : List V) (ps : List Pt), vs = [.ref O, .ref L] ∧ Orch H O b ∧ b < 2 ^ 19 ∧ L ≠ O ∧ H L = some (.lst us) ∧ Pts H us ps ∧ 0 < ps.length ∧ ps.length ≤ 31 ∧
  ∀ H' D ds E, Bx O H H' → Orch H' O (b + 40) → H D = none → H' D = some (.lst ds) → E.map (·.1) = cyc ps → Pts H' ds (hv E) → Q (.ref D) H'
theorem scLawHalved : FnScope ["_law_orchard_here", "_law_corners", "_law_found", "_law_one", "_law_other"] ["_law_orchard_here", "_law_corners"] (defScope s_law_halved) := ⟨rfl, rfl, rfl, by decide +kernel, rfl, by decide +kernel, by decide +kernel⟩
theorem c_law_halved (B : Bn mg) (C_law_prune : Cal P w K mg base 1 "_law_prune" spPrune []) (F : Has K mg "_law_halved" s_law_halved ["_law_orchard_here", "_law_corners"]) : Cal P w K mg base 2 "_law_halved" spHalved [] := by
  refine F.cal scLawHalved (fun vs H Q E h => ?_) (fun f cdv A outer s H vs Q E hr h => ?_)
  · obtain ⟨_, _, _, _, _, rfl, _⟩ := h
    rfl
  · obtain ⟨O, L, b, us, ps, rfl, hO, hb, nL, eL, pp, h0, h1, k⟩ := h
    refine ⟨_, (pss_cons (ps_set (i := 2) scLawHalved.nd rfl (Or.inl rfl) (pe_lst pa_nil))
 (pss_cons (ps_for PassesOwn.never rfl (pi_zipM false false (by rfl) B.zip (pa_cons (pv 1) (pa_cons (pe_op op_cat (pe_callTy call_list_of (by rfl) B.list (by decide +kernel) (pa_cons (pe_slice sl_list (pv 1) (po_some pe_int) po_none) pa_nil)) (pe_callTy call_list_of (by rfl) B.list (by decide +kernel) (pa_cons (pe_slice sl_list (pv 1) po_none (po_some pe_int)) pa_nil))) pa_nil))) (pg_tup rfl (pgs_cons (pg_name (i := 3) scLawHalved.nd rfl (Or.inl rfl)) (pgs_cons (pg_name (i := 4) scLawHalved.nd rfl (Or.inl rfl)) pgs_nil)))
 (pss_cons (ps_expr (pe_bm PySem.F.plainAttrs_list PySem.F.slot_list_append PySem.F.type_list_append mt_append (pv 2) (pa_cons (pe_tup (pa_cons (pe_op op_mul pe_int (ixT (pv 3) pe_int)) (pa_cons (pe_op op_mul pe_int (ixT (pv 3) pe_int)) pa_nil))) pa_nil)))
 (pss_one (ps_if (pt_cmpR op_eq (pe_c C_law_prune hr (by decide) rfl (pa_cons (pv 0) (pa_cons pe_int pa_nil))) pe_int (nomark _)) (pss_one (ps_expr (pe_bm PySem.F.plainAttrs_list PySem.F.slot_list_append PySem.F.type_list_append mt_append (pv 2) (pa_cons (pe_tup (pa_cons (pe_op op_add (ixT (pv 3) pe_int) (ixT (pv 4) pe_int)) (pa_cons (pe_op op_add (ixT (pv 3) pe_int) (ixT (pv 4) pe_int)) pa_nil))) pa_nil)))) pss_nil))))
 (pss_one (ps_ret (pv 2))))), ?_⟩
    have hlu : us.length = ps.length := pp.length
    refine ⟨by decide, fun D hD => ?_⟩
    have s1 := sameU (o := .lst []) (Same.refl H) hD
    have nD : D ≠ O := hO.neN hD
    have c1 : cutV us (some 1) none = us.drop 1 := cut1 (by omega)
    have c2 : cutV us none (some 1) = us.take 1 := cutT 1
    have eD : (upd H D (.lst [])) D = some (.lst []) := upd_same
    have oF : OrX (upd H D (.lst [])) O D b := .new hO hD
    have eL1 := s1 _ _ eL
    show tSeq _ _ _ _ (upd H D (.lst []))
    generalize upd H D (.lst []) = H1 at s1 eD oF eL1 ⊢
    have pp1 : Pts H1 us ps := Paired.kt pt_kt (same_kt s1) pp
    have nLD : L ≠ D := fun q => by rw [q, hD] at eL; cases eL
    refine ⟨_, rfl, _, rfl, _, rfl, L, us, rfl, sql eL1, fun a1 ha1 => ?_⟩
    rw [c1]
    have x1 := sameU (o := .lst (us.drop 1)) (Same.refl H1) ha1
    refine ⟨a1, _, rfl, .inl (sql upd_same), fun a2 ha2 => ?_⟩
    have x2 := sameU (o := .lst (us.drop 1)) x1 ha2
    have g2 := upd_same (H := upd H1 a1 (.lst (us.drop 1))) (a := a2) (o := .lst (us.drop 1))
    refine ⟨_, rfl, _, rfl, L, us, rfl, sql (x2 _ _ eL1), fun a3 ha3 => ?_⟩
    rw [c2]
    have y3 := sameU (o := .lst (us.take 1)) (Same.refl _) ha3
    refine ⟨a3, _, rfl, .inl (sql upd_same), fun a4 ha4 => ?_⟩
    have y4 := sameU (o := .lst (us.take 1)) y3 ha4
    have ln : us.length = (us.drop 1 ++ us.take 1).length := by simp; omega
    refine ⟨a2, a4, _, _, rfl, rfl, y4 _ _ g2, upd_same, ?_, fun R hR => ?_⟩
    · rw [← List.length_append, ← ln]
      exact Nat.le_trans (show us.length ≤ 1000 by omega) (by decide)
    have y5 := sameU (o := .lst (us.drop 1 ++ us.take 1)) y4 hR
    have sF : Same H1 (upd (upd (upd (upd (upd H1 a1 (.lst (us.drop 1))) a2 (.lst (us.drop 1))) a3 (.lst (us.take 1))) a4 (.lst (us.take 1))) R (.lst (us.drop 1 ++ us.take 1))) := fun b u q => y5 _ _ (x2 _ _ q)
    have eR := upd_same (H := upd (upd (upd (upd H1 a1 (.lst (us.drop 1))) a2 (.lst (us.drop 1))) a3 (.lst (us.take 1))) a4 (.lst (us.take 1))) (a := R) (o := .lst (us.drop 1 ++ us.take 1))
    have nR : R ≠ O := (oF.orch.same fun b u q => y4 _ _ (x2 _ _ q)).neN hR
    have nRD : R ≠ D := fun q => by
      have := y4 _ _ (x2 _ _ eD)
      rw [← q, hR] at this
      cases this
    refine ⟨L, R, us, us.drop 1 ++ us.take 1, rfl, sql (sF _ _ eL1), sql eR, ?_⟩
    generalize upd (upd (upd (upd (upd H1 a1 (.lst (us.drop 1))) a2 (.lst (us.drop 1))) a3 (.lst (us.take 1))) a4 (.lst (us.take 1))) R (.lst (us.drop 1 ++ us.take 1)) = H2 at sF eR ⊢
    have eL2 := sF _ _ eL1
    have pp2 : Pts H2 us ps := Paired.kt pt_kt (same_kt sF) pp1
    have oF2 := oF.same sF
    have eD2 := sF _ _ eD
    refine for_it (walk_zipM (b1 := false) (b2 := false) (xs := us) (ys := us.drop 1 ++ us.take 1) ln) (fun i σ H' => Bx2 O D H2 H' ∧ OrX H' O D (b + i) ∧ ∃ ds E o3 o4, σ = [some (.ref O), some (.ref L), some (.ref D), o3, o4] ∧ H' D = some (.lst ds) ∧ Pts H' ds (hv E) ∧ E.map (·.1) = (cyc ps).take i) ⟨.refl, by simpa using oF2, [], [], _, _, rfl, eD2, .nil, rfl⟩ (fun i σ H' hi p => ⟨sql (p.1 _ _ nL nLD eL2), sql (p.1 _ _ nR nRD eR)⟩) (fun i y σ H0 H' hi p Y => ?_) (fun σ H' p => ?_)
    · obtain ⟨T, x, z, rfl, hT, rfl, ex, ez⟩ := Y
      obtain ⟨bx, oi, ds, E, o3, o4, rfl, eDi, pd, eE⟩ := p
      have kt := bx.kt oF2.orch eD2
      have ppi : Pts H0 us ps := Paired.kt pt_kt kt pp2
      obtain ⟨p, ep, rp⟩ := Paired.at ppi ex
      obtain ⟨q, eq, rq⟩ := Paired.at (Paired.app (Paired.drop 1 ppi) (Paired.take 1 ppi)) ez
      have ec : (cyc ps)[i]? = some (p, q) := by
        rw [cyc_zip, List.getElem?_zip_eq_some]
        exact ⟨ep, eq⟩
      have tk : (cyc ps).take (i + 1) = (cyc ps).take i ++ [(p, q)] := by rw [List.take_add_one, ec]; rfl
      have le : E.length = i := by
        have := congrArg List.length eE
        rw [List.length_map, List.length_take, cyc_n] at this
        omega
      have v1 := sameU (o := .tup [x, z]) (Same.refl H0) hT
      refine ⟨T, _, rfl, sqt upd_same, rfl, _, _, rfl, ?_⟩
      refine ⟨_, _, rfl, ?_⟩
      refine ⟨rfl, ?_⟩
      have bx1 := bx.same v1
      have o1 := oi.same v1
      have rp1 := rp.same v1
      have rq1 := rq.same v1
      have eD1 := v1 _ _ eDi
      have pd1 : Pts (upd H0 T (.tup [x, z])) ds (hv E) := Paired.kt pt_kt (same_kt v1) pd
      generalize upd H0 T (.tup [x, z]) = H3 at bx1 o1 rp1 rq1 eD1 pd1 ⊢
      have lds : ds.length ≤ 2 * i := by
        have := hv_len E
        rw [pd.length]
        omega
      refine ⟨_, rfl, .inl ⟨rfl, _, sql eD1⟩, _, rfl, rp1.i0 ⟨_, _, rfl, rfl, .inl ⟨by decide, by decide⟩, _, rfl, rp1.i1 ⟨_, _, rfl, rfl, .inl ⟨by decide, by decide⟩, by show 2 ≤ sizeLine; decide, fun T2 hT2 => ?_⟩⟩⟩
      have v2 := sameU (o := .tup [.int (2 * p.1), .int (2 * p.2)]) (Same.refl H3) hT2
      have eD3 := v2 _ _ eD1
      refine ⟨D, ds, .ref T2, rfl, rfl, eD3, Nat.lt_of_lt_of_le (show ds.length < 100 by omega) (by decide), ?_⟩
      have kt3 := kt_upd (o := .lst (ds ++ [.ref T2])) eD3
      have bx3 : Bx2 O D H2 (upd (upd H3 T2 (.tup [.int (2 * p.1), .int (2 * p.2)])) D (.lst (ds ++ [.ref T2]))) := (bx1.same v2).set
      have o3 : OrX (upd (upd H3 T2 (.tup [.int (2 * p.1), .int (2 * p.2)])) D (.lst (ds ++ [.ref T2]))) O D (b + i) := (o1.same v2).set
      have eD4 := upd_same (H := upd H3 T2 (.tup [.int (2 * p.1), .int (2 * p.2)])) (a := D) (o := .lst (ds ++ [.ref T2]))
      have pd4 : Pts (upd (upd H3 T2 (.tup [.int (2 * p.1), .int (2 * p.2)])) D (.lst (ds ++ [.ref T2]))) (ds ++ [.ref T2]) (hv E ++ [dbl p]) := Paired.snoc (Paired.kt pt_kt kt3 (Paired.kt pt_kt (same_kt v2) pd1)) ⟨T2, rfl, kt3 _ _ upd_same⟩
      have rp4 : IsPt (upd (upd H3 T2 (.tup [.int (2 * p.1), .int (2 * p.2)])) D (.lst (ds ++ [.ref T2]))) x p := (rp1.same v2).kt kt3
      have rq4 : IsPt (upd (upd H3 T2 (.tup [.int (2 * p.1), .int (2 * p.2)])) D (.lst (ds ++ [.ref T2]))) z q := (rq1.same v2).kt kt3
      generalize upd (upd H3 T2 (.tup [.int (2 * p.1), .int (2 * p.2)])) D (.lst (ds ++ [.ref T2])) = H4 at bx3 o3 eD4 pd4 rp4 rq4 ⊢
      obtain ⟨xh, vh, eh⟩ : ∃ xh vh, ds ++ [V.ref T2] = V.ref xh :: vh := by
        cases hE : hv E ++ [dbl p] with
        | nil => simp at hE
        | cons a t => rw [hE] at pd4; exact pts_head pd4
      refine ⟨_, rfl, O, 3, _, rfl, o3.orch, by omega, by decide, by decide, fun H5 m m0 m1 bx5 o5 => ⟨rfl, _, rfl, ?_⟩⟩
      have eD5 := bx5 _ _ oi.ne eD4
      have kt5 := bx5.ktO o3.orch
      have oX : OrX H5 O D (b + i + 1) := .of o5 oi.ne (by rw [← eh]; exact eD5)
      have pd5 := Paired.kt pt_kt kt5 pd4
      have rp5 := rp4.kt kt5
      have rq5 := rq4.kt kt5
      have bxx := bx3.bx bx5
      refine ite_t (fun hm => ?_) (fun hm => ?_)
      · refine ⟨_, rfl, .inl ⟨rfl, _, sql eD5⟩, _, rfl, rp5.i0 ⟨_, rfl, rq5.i0 ⟨_, _, rfl, rfl, _, rfl, rp5.i1 ⟨_, rfl, rq5.i1 ⟨_, _, rfl, rfl, by show 2 ≤ sizeLine; decide, fun T3 hT3 => ?_⟩⟩⟩⟩⟩
        have v6 := sameU (o := .tup [.int (p.1 + q.1), .int (p.2 + q.2)]) (Same.refl H5) hT3
        have eD6 := v6 _ _ eD5
        refine ⟨D, ds ++ [.ref T2], .ref T3, rfl, rfl, eD6, Nat.lt_of_lt_of_le (show (ds ++ [V.ref T2]).length < 100 by simp; omega) (by decide), ?_⟩
        have kt6 := kt_upd (o := .lst (ds ++ [.ref T2] ++ [.ref T3])) eD6
        refine ⟨(bxx.same v6).set, (oX.same v6).set.mono (by omega), _, E ++ [((p, q), true)], _, _, rfl, upd_same, ?_, ?_⟩
        · rw [hv_snoc]
          show Pts _ _ (hv E ++ [dbl p, addP p q])
          rw [show hv E ++ [dbl p, addP p q] = (hv E ++ [dbl p]) ++ [addP p q] by simp]
          exact Paired.snoc (Paired.kt pt_kt kt6 (Paired.kt pt_kt (same_kt v6) pd5)) ⟨T3, rfl, kt6 _ _ upd_same⟩
        · rw [List.map_append, eE, tk]
          rfl
      · refine ⟨bxx, oX.mono (by omega), _, E ++ [((p, q), false)], _, _, rfl, eD5, ?_, ?_⟩
        · rw [hv_snoc]
          exact pd5
        · rw [List.map_append, eE, tk]
          rfl
    · obtain ⟨bx, oi, ds, E, o3, o4, rfl, eDi, pd, eE⟩ := p
      refine ⟨_, rfl, k _ D ds E (fun c o n e => bx _ _ n (fun q => by rw [q, hD] at e; cases e) (sF _ _ (s1 _ _ e))) (oi.orch.mono (by omega)) hD eDi ?_ pd⟩
      rw [eE]
      exact List.take_of_length_le (by rw [cyc_n]; omega)
end
end Bay
namespace Bay
open PySem PySem.Spec PyProof.Rows L2
open C8 (Cal pe_c Mak pe_mk)
section
variable {P : Program} {w : World} {K : PySem.W.Frag} {mg : Str → Option Value} {base : Heap}
/-- the same, where the list to be filled has come -/
theorem lc_ptsW {σ : L2.St} {H : Hp} {L D : Addr} {us : List V} {ps : List Pt} (f : Pt → Pt) {a b : Nat} {te : TE} {Qd : Hp → Prop} (hD : H D = none) (eL : H L = some (.lst us)) (pp : Pts H us ps) (h1 : ps.length ≤ 1000)
    (hs : ∀ (p : Pt) (H' : Hp) (N : V → Hp → Prop), Same H H' → (∀ T, H' T = none → N (.ref T) (upd H' T (.tup [.int (f p).1, .int (f p).2]))) → te (((wipe σ [a, b]).set a (some (.int p.1))).set b (some (.int p.2))) H' N)
    (hw : ∀ p : Pt, wipe (((wipe σ [a, b]).set a (some (.int p.1))).set b (some (.int p.2))) [a, b] = wipe σ [a, b])
    (k : ∀ H' ys, Same H H' → H' D = some (.lst ys) → Pts H' ys (ps.map f) → Qd H') :
    ∃ W : Nat → Nat → Hp → Prop, (∃ m, W 0 m (upd H D (.lst []))) ∧ ∀ i m H, W i m H → ((Itl K L).stop i H ∧ Qd H) ∨ ((Itl K L).go i H ∧ ∃ Nx : Hp → Prop, (∀ H', Nx H' → ∃ m', m' < m ∧ W (i + 1) m' H') ∧
      ∀ x H', (Itl K L).yld i H x H' → gTup K 2 (gCons (gName a) (gCons (gName b) gNil)) x (wipe σ [a, b]) H' fun σ2 H2 => wipe σ2 [a, b] = wipe σ [a, b] ∧ tYes σ2 H2 fun c H3 => if c = true then te σ2 H3 fun y H4 => ∃ acc, H4 D = some (.lst acc) ∧ acc.length < sizeLine ∧ Nx (upd H4 D (.lst (acc ++ [y]))) else Nx H3) := by
  have hlu : us.length = ps.length := pp.length
  refine lc_gen (walk_list (xs := us)) ps (fun _ => true) f IsPt hlu.symm (Nat.le_trans (show us.length ≤ 1000 by omega) (by decide)) pt_kt hD (fun H s => sql (s _ _ eL)) (fun i e y H0 H' Ny Ns ee s Y hy _ => ?_) (fun ys He se eD pD => ?_)
  · obtain ⟨rfl, ey⟩ := Y
    obtain ⟨y2, ey2, r⟩ := Paired.at2 pp ee
    rw [ey] at ey2
    cases ey2
    obtain ⟨T, rfl, hT⟩ := r
    refine ⟨T, _, rfl, sqt (s _ _ hT), rfl, _, _, rfl, ?_⟩
    refine ⟨_, _, rfl, ?_⟩
    refine ⟨rfl, hw e, ?_⟩
    exact hs e H' Ny s fun T2 hT2 => hy rfl _ _ (sameU (Same.refl _) hT2) ⟨T2, rfl, upd_same⟩
  · rw [filter_yes] at pD
    exact k He ys se eD pD
/-- a list of points from a list of points -/
theorem lc_pts {σ : L2.St} {H : Hp} {L : Addr} {us : List V} {ps : List Pt} (f : Pt → Pt) {i a b : Nat} {te : TE} {Q : V → Hp → Prop} (hi : σ[i]? = some (some (.ref L))) (eL : H L = some (.lst us)) (pp : Pts H us ps) (h1 : ps.length ≤ 1000)
    (hs : ∀ (p : Pt) (H' : Hp) (N : V → Hp → Prop), Same H H' → (∀ T, H' T = none → N (.ref T) (upd H' T (.tup [.int (f p).1, .int (f p).2]))) → te (((wipe σ [a, b]).set a (some (.int p.1))).set b (some (.int p.2))) H' N)
    (hw : ∀ p : Pt, wipe (((wipe σ [a, b]).set a (some (.int p.1))).set b (some (.int p.2))) [a, b] = wipe σ [a, b])
    (k : ∀ H' D ys, Same H H' → H D = none → H' D = some (.lst ys) → Pts H' ys (ps.map f) → Q (.ref D) H') :
    tLc (iList K (tVar i)) (gTup K 2 (gCons (gName a) (gCons (gName b) gNil))) tYes te [a, b] σ H Q :=
  ⟨_, hi, L, rfl, ⟨_, sql eL⟩, fun D hD => lc_ptsW f hD eL pp h1 hs hw fun H' ys s e p => k H' D ys s hD e p⟩
/-- a pair (fence, field that is due) of the law -/
structure GoodP (O : Addr) (H : Hp) (A D : Addr) : Prop where
  ex : ∃ (us ds : List V) (l e : List Pt), A ≠ O ∧ D ≠ O ∧ H A = some (.lst us) ∧ Pts H us l ∧ H D = some (.lst ds) ∧ Pts H ds e ∧ Fen l ∧ l.length ≤ 63 ∧ (∀ p ∈ l, Sm (2 ^ 28) p) ∧ 0 < e.length ∧ e.length ≤ 1000 ∧ ∀ C E, FieldOf l C → IsBegun e E → E = C
def IsPr (O B : Addr) (H : Hp) (v : V) : Prop := ∃ T A D, v = .ref T ∧ H T = some (.tup [.ref A, .ref D]) ∧ A ≠ B ∧ D ≠ B ∧ GoodP O H A D
theorem GoodP.kept {O B A D : Addr} {H H' : Hp} (h : GoodP O H A D) (nA : A ≠ B) (nD : D ≠ B) (s : Bx2 O B H H') (kt : Kt H H') : GoodP O H' A D := by
  obtain ⟨us, ds, l, e, n1, n2, e1, p1, e2, p2, h3⟩ := h.ex
  exact ⟨us, ds, l, e, n1, n2, s _ _ n1 nA e1, Paired.kt pt_kt kt p1, s _ _ n2 nD e2, Paired.kt pt_kt kt p2, h3⟩
theorem IsPr.kept {O B : Addr} {H H' : Hp} {v : V} (h : IsPr O B H v) (s : Bx2 O B H H') (kt : Kt H H') : IsPr O B H' v := by
  obtain ⟨T, A, D, e, eT, nA, nD, g⟩ := h
  exact ⟨T, A, D, e, kt _ _ eT, nA, nD, g.kept nA nD s kt⟩
/-- found pairs, one more -/
theorem pr_push {O B T A D : Addr} {H H' : Hp} {vs : List V} {xs : List V} (nBO : B ≠ O) (hv : ∀ v ∈ vs, IsPr O B H v) (s : Bx2 O B H H') (kt : Kt H H') (g : GoodP O H' A D) (nA : A ≠ B) (nD : D ≠ B) (hT : H' T = none) (eB : H' B = some (.lst xs)) (xs' : List V) :
    ∀ v ∈ vs ++ [.ref T], IsPr O B (upd (upd H' T (.tup [.ref A, .ref D])) B (.lst xs')) v := by
  have v1 := sameU (o := .tup [.ref A, .ref D]) (Same.refl H') hT
  have k2 := kt_upd (o := .lst xs') (v1 _ _ eB)
  have s2 : Bx2 O B H' (upd (upd H' T (.tup [.ref A, .ref D])) B (.lst xs')) := (Bx2.refl.same v1).set
  have kt2 : Kt H' (upd (upd H' T (.tup [.ref A, .ref D])) B (.lst xs')) := fun c ys q => k2 _ _ (v1 _ _ q)
  intro v hv'
  rcases List.mem_append.mp hv' with h | h
  · exact ((hv v h).kept s kt).kept s2 kt2
  · rw [List.mem_singleton.mp h]
    exact ⟨T, A, D, rfl, k2 _ _ upd_same, nA, nD, g.kept nA nD s2 kt2⟩
theorem sid_quar (l : List Pt) : sid (l.map quar) = (sid l).map quar := sid_lin (fun a b => by
  unfold way quar
  exact Prod.ext (by simp only; omega) (by simp only)) l
theorem sm_bd {b c : Int} {l : List Pt} (h : Bd b l) (e : b < c) : ∀ p ∈ l, Sm c p := fun p hp => by
  have := h p hp
  unfold Sm
  omega
/-- a fence is made of corners that keep the document -/
theorem init_fen {C : Addr} {H1 : Hp} {x dx l : Addr} {us : List V} {ps : List Pt} {Q : VK} {E : XK} (hx : H1 x = none) (hdx : H1 dx = none) (ne : dx ≠ x) (eL : H1 l = some (.lst us)) (hp : Pts H1 us ps) (h1 : ps.length ≤ 63) (sm : ∀ p ∈ ps, Sm (2 ^ 28) p) (fe : Fen ps)
    (k : ∀ H2, Same H1 H2 → IsF C H2 (.ref x) ps → Q .non H2) : spInit (K := K) C [.ref x, .ref l, .bl false] (upd (upd H1 dx (.own x)) x (.ins C dx [])) Q E := by
  have m2 := made_same (o := .ins C dx []) hx hdx ne
  have h0 : 0 < ps.length := by have := fe.s.len; omega
  refine ⟨x, dx, l, false, false, us, ps, rfl, upd_same, Sq.same (b := false) m2 (sql eL), Paired.kt pt_kt (same_kt m2) hp, h0, by omega, fun p hp => (sm p hp).mono (by decide), fun _ => ⟨m2 _ _ eL, fe, by omega, fun p hp => (sm p hp).mono (by decide)⟩, fun H2 c t vs ss bx a1 a2 a3 a4 a5 => ?_⟩
  exact k H2 (made_after hx hdx ne bx) ⟨x, dx, c, t, vs, ss, rfl, a1, a2, a3, a4, a5⟩
theorem pr_first {O B T A D : Addr} {H : Hp} {u : HO} (g : GoodP O H A D) (hT : H T = none) (hB : (upd H T (.tup [.ref A, .ref D])) B = none) : ∀ v ∈ [V.ref T], IsPr O B (upd (upd H T (.tup [.ref A, .ref D])) B u) v := fun v hv => by
  have v1 := sameU (o := .tup [.ref A, .ref D]) (Same.refl H) hT
  have v2 := sameU (o := u) (Same.refl _) hB
  have s : Same H (upd (upd H T (.tup [.ref A, .ref D])) B u) := fun b o q => v2 _ _ (v1 _ _ q)
  obtain ⟨us, ds, l, e, n1, n2, e1, p1, e2, p2, h3⟩ := g.ex
  rw [List.mem_singleton.mp hv]
  exact ⟨T, A, D, rfl, v2 _ _ upd_same, ne_of_none (v1 _ _ e1) hB, ne_of_none (v1 _ _ e2) hB, us, ds, l, e, n1, n2, s _ _ e1, Paired.kt pt_kt (same_kt s) p1, s _ _ e2, Paired.kt pt_kt (same_kt s) p2, h3⟩
/-- what the law knows while it fills its list of pairs -/
structure Law6 (O L F B Tb : Addr) (b : Int) (us us4 : List V) (ps Bf : List Pt) (wb : Pt) (H : Hp) (vs : List V) : Prop where
  nL : L ≠ O
  nLB : L ≠ B
  nF : F ≠ O
  nFB : F ≠ B
  eL : H L = some (.lst us)
  pp : Pts H us ps
  eF : H F = some (.lst us4)
  pF : Pts H us4 Bf
  iby : IsPt H (.ref Tb) wb
  oX : OrX H O B b
  eB : H B = some (.lst vs)
  prs : ∀ v ∈ vs, IsPr O B H v
variable {O L F B Tb : Addr} {b : Int} {us us4 : List V} {ps Bf : List Pt} {wb : Pt} {H H' : Hp} {vs : List V}
theorem Law6.same (h : Law6 O L F B Tb b us us4 ps Bf wb H vs) (s : Same H H') : Law6 O L F B Tb b us us4 ps Bf wb H' vs :=
  ⟨h.nL, h.nLB, h.nF, h.nFB, s _ _ h.eL, Paired.kt pt_kt (same_kt s) h.pp, s _ _ h.eF, Paired.kt pt_kt (same_kt s) h.pF, h.iby.same s, h.oX.same s, s _ _ h.eB, fun v hv => (h.prs v hv).kept (Bx2.refl.same s) (same_kt s)⟩
theorem Law6.new (h : Law6 O L F B Tb b us us4 ps Bf wb H vs) {A : Addr} (n : H A = none) : A ≠ O ∧ A ≠ B := ⟨h.oX.orch.neN n, fun q => by rw [q, h.eB] at n; cases n⟩
theorem Law6.bx {b' : Int} {x : Addr} {xs : List V} (h : Law6 O L F B Tb b us us4 ps Bf wb H (.ref x :: xs)) (s : Bx O H H') (o : Orch H' O b') : Law6 O L F B Tb b' us us4 ps Bf wb H' (.ref x :: xs) := by
  have kt := s.ktO h.oX.orch
  have eB := s _ _ h.oX.ne h.eB
  exact ⟨h.nL, h.nLB, h.nF, h.nFB, s _ _ h.nL h.eL, Paired.kt pt_kt kt h.pp, s _ _ h.nF h.eF, Paired.kt pt_kt kt h.pF, h.iby.kt kt, .of o h.oX.ne eB, eB, fun v hv => (h.prs v hv).kept (Bx2.refl.bx s) kt⟩
theorem Law6.push (h : Law6 O L F B Tb b us us4 ps Bf wb H vs) {T A D : Addr} (hT : H T = none) (g : GoodP O H A D) (nA : A ≠ B) (nD : D ≠ B) : Law6 O L F B Tb b us us4 ps Bf wb (upd (upd H T (.tup [.ref A, .ref D])) B (.lst (vs ++ [.ref T]))) (vs ++ [.ref T]) := by
  have v1 := sameU (o := .tup [.ref A, .ref D]) (Same.refl H) hT
  have k2 := kt_upd (o := .lst (vs ++ [.ref T])) (v1 _ _ h.eB)
  have s2 : Bx2 O B H (upd (upd H T (.tup [.ref A, .ref D])) B (.lst (vs ++ [.ref T]))) := (Bx2.refl.same v1).set
  have kt : Kt H (upd (upd H T (.tup [.ref A, .ref D])) B (.lst (vs ++ [.ref T]))) := fun c ys q => k2 _ _ (v1 _ _ q)
  exact ⟨h.nL, h.nLB, h.nF, h.nFB, s2 _ _ h.nL h.nLB h.eL, Paired.kt pt_kt kt h.pp, s2 _ _ h.nF h.nFB h.eF, Paired.kt pt_kt kt h.pF, h.iby.kt kt, (h.oX.same v1).set, upd_same, pr_push h.oX.ne h.prs .refl (fun _ _ q => q) g nA nD hT h.eB _⟩
theorem tSeq_i {t u : TS} {E : Ends} {σ : L2.St} (h : t { E with nx := u E } σ H) : tSeq t u E σ H := h
theorem tAsg_i {te : TE} {g : TG} {E : Ends} {σ : L2.St} (h : te σ H fun x H1 => g x σ H1 E.nx) : tAsg te g E σ H := h
theorem tDrop_i {te : TE} {E : Ends} {σ : L2.St} (h : te σ H fun _ H1 => E.nx σ H1) : tDrop te E σ H := h
theorem tTup_i {t : TA} {σ : L2.St} {Q : V → Hp → Prop} (h : t σ H fun xs H1 => xs.length ≤ sizeLine ∧ ∀ p, H1 p = none → Q (.ref p) (upd H1 p (.tup xs))) : tTup t σ H Q := h
theorem tRet_i {t : TE} {E : Ends} {σ : L2.St} (h : t σ H E.rt) : tRet t E σ H := h
theorem tRevL_i {t : TE} {σ : L2.St} {Q : V → Hp → Prop} (h : t σ H fun x H1 => ∃ a xs, x = .ref a ∧ SqL K H1 a xs ∧ ∀ p, H1 p = none → Q (.ref p) (upd H1 p (.lst xs.reverse))) : tRevL K t σ H Q := h
theorem app_i {ta tb : TE} {E : Ends} {σ : L2.St} {i : Nat} (h : Law6 O L F B Tb b us us4 ps Bf wb H vs) (h1 : σ[i]? = some (some (.ref B))) (hl : vs.length < 100)
    (k : ta σ H fun x H1 => tb σ H1 fun y H2 => 2 ≤ sizeLine ∧ ∀ p, H2 p = none → rAppend (.ref B) [.ref p] (upd H2 p (.tup [x, y])) fun _ H3 => E.nx σ H3) : tDrop (tBM K "list" rAppend (tVar i) (tCons (tTup (tCons ta (tCons tb tNil))) tNil)) E σ H :=
  ⟨_, h1, .inl ⟨rfl, _, sql h.eB⟩, k⟩
theorem app_e {A D : Addr} {Q : VK} (h : Law6 O L F B Tb b us us4 ps Bf wb H vs) (hl : vs.length < 100) (nA : A ≠ B) (nD : D ≠ B) (g : GoodP O H A D) (k : ∀ T H3, Law6 O L F B Tb b us us4 ps Bf wb H3 (vs ++ [.ref T]) → Q .non H3) :
    2 ≤ sizeLine ∧ ∀ p, H p = none → rAppend (.ref B) [.ref p] (upd H p (.tup [.ref A, .ref D])) Q :=
  ⟨by decide, fun p hp => ⟨B, vs, .ref p, rfl, rfl, sameU (Same.refl H) hp _ _ h.eB, Nat.lt_of_lt_of_le hl (by decide), k p _ (h.push hp g nA nD)⟩⟩
/-- the same with the number of pairs alone -/
def LawN (O L F B Tb : Addr) (b : Int) (us us4 : List V) (ps Bf : List Pt) (wb : Pt) (H : Hp) (n : Nat) : Prop := ∃ x xs, xs.length + 1 = n ∧ Law6 O L F B Tb b us us4 ps Bf wb H (.ref x :: xs)
theorem LawN.same {n : Nat} (h : LawN O L F B Tb b us us4 ps Bf wb H n) (s : Same H H') : LawN O L F B Tb b us us4 ps Bf wb H' n := let ⟨x, xs, e, W⟩ := h; ⟨x, xs, e, W.same s⟩
theorem appN_e {A D : Addr} {n : Nat} {E : Ends} {σ : L2.St} (h : LawN O L F B Tb b us us4 ps Bf wb H n) (hl : n < 50) (nA : A ≠ B) (nD : D ≠ B) (g : GoodP O H A D) (k : ∀ H3, LawN O L F B Tb b us us4 ps Bf wb H3 (n + 1) → E.nx σ H3) :
    2 ≤ sizeLine ∧ ∀ p, H p = none → rAppend (.ref B) [.ref p] (upd H p (.tup [.ref A, .ref D])) fun _ H3 => E.nx σ H3 := by
  obtain ⟨x, xs, e, W⟩ := h
  exact app_e (Q := fun _ H3 => E.nx σ H3) W (by rw [List.length_cons]; omega) nA nD g fun T H3 W3 => k H3 ⟨x, xs ++ [V.ref T], by rw [List.length_append]; show xs.length + 1 + 1 = n + 1; omega, W3⟩
end
end Bay
namespace Bay
open PySem PySem.Spec PyProof.Rows L2
open C8 (Cal pe_c Mak pe_mk)
section
variable {P : Program} {w : World} {K : PySem.W.Frag} {mg : Str → Option Value} {base : Heap}
/-- the law's slots while it fills its list of pairs -/
abbrev sP (a O L F Tb Pl : Addr) (k0 : Int) (n : Nat) : L2.St := [some (.ref a), some (.ref O), some (.ref L), some (.ref F), some (.ref Tb), some (.int (1 + k0)), some (.int n), some (.ref Pl), none, none, none, none, none, none]
structure LawC (ps Bf : List Pt) (k0 : Int) (n : Nat) : Prop where
  fe : Fen ps
  fo : FieldOf ps Bf
  bd : Bd 40 ps
  ln : ps.length ≤ 21
  b0 : 0 < Bf.length
  b1 : Bf.length ≤ 63
  k1 : 0 ≤ k0
  k2 : k0 < 5
  hn : n < ps.length
variable {a O L F Tb Pl : Addr} {k0 : Int} {n : Nat} {us us4 : List V} {ps Bf : List Pt} {wb : Pt} {H : Hp} {b : Int} {E : Ends}
theorem st_quar (c : LawC ps Bf k0 n) (N : LawN O L F Pl Tb b us us4 ps Bf wb H 1) (k : ∀ H', LawN O L F Pl Tb b us us4 ps Bf wb H' 2 → E.nx (sP a O L F Tb Pl k0 n) H') :
    tDrop (tBM K "list" rAppend (tVar 7) (tCons (tTup (tCons (tCall spQuarter [] C8.E0 (tCons (tVar 2) tNil)) (tCons (tCall spQuarter [] C8.E0 (tCons (tVar 3) tNil)) tNil))) tNil)) E (sP a O L F Tb Pl k0 n) H := by
  have ln := c.ln
  have b1 := c.b1
  obtain ⟨x, xs, e, W⟩ := id N
  refine ⟨_, rfl, .inl ⟨rfl, _, sql W.eB⟩, _, rfl, L, us, ps, rfl, W.eL, W.pp, by omega, fun Ha A ya sa na ea pa => ?_⟩
  have nA := W.new na
  have Wa := W.same sa
  refine ⟨_, rfl, F, us4, Bf, rfl, Wa.eF, Wa.pF, by omega, fun Hb D yb sb nb eb pb => ?_⟩
  have nD := Wa.new nb
  refine appN_e (E := E) (σ := sP a O L F Tb Pl k0 n) ((N.same sa).same sb) (by decide) nA.2 nD.2 ⟨ya, yb, _, _, nA.1, nD.1, sb _ _ ea, Paired.kt pt_kt (same_kt sb) pa, eb, pb, c.fe.quar, by rw [List.length_map]; omega, fun p hp => ?_, by rw [List.length_map]; exact c.b0, by rw [List.length_map]; omega, fun C1 E1 hC hE => field_quar c.fe c.fo hC hE⟩ k
  obtain ⟨q, hq, rfl⟩ := List.mem_map.mp hp
  have := c.bd q hq
  unfold quar Sm
  simp only
  omega
theorem st_mir (c : LawC ps Bf k0 n) (N : LawN O L F Pl Tb b us us4 ps Bf wb H 2) (k : ∀ H', LawN O L F Pl Tb b us us4 ps Bf wb H' 3 → E.nx (sP a O L F Tb Pl k0 n) H') :
    tDrop (tBM K "list" rAppend (tVar 7) (tCons (tTup (tCons (tRevL K (tLc (iList K (tVar 2)) (gTup K 2 (gCons (gName 8) (gCons (gName 9) gNil))) tYes (tTup (tCons (tUn (rU fun i => V.int (-i)) (tVar 8)) (tCons (tVar 9) tNil))) [8, 9]))
      (tCons (tRevL K (tLc (iList K (tVar 3)) (gTup K 2 (gCons (gName 8) (gCons (gName 9) gNil))) tYes (tTup (tCons (tUn (rU fun i => V.int (-i)) (tVar 8)) (tCons (tVar 9) tNil))) [8, 9])) tNil))) tNil)) E (sP a O L F Tb Pl k0 n) H := by
  have ln := c.ln
  have b1 := c.b1
  obtain ⟨x, xs, e, W⟩ := id N
  refine ⟨_, rfl, .inl ⟨rfl, _, sql W.eB⟩, ?_⟩
  refine tCons_i (tTup_i (tCons_i (tRevL_i (lc_pts mir rfl W.eL W.pp (by omega) (fun p H' N s h => ⟨_, rfl, _, rfl, _, rfl, by show 2 ≤ sizeLine; decide, fun T hT => h T hT⟩) (fun p => rfl) fun Ha A ya sa na ea pa => ⟨A, ya, rfl, sql ea, fun A2 ha2 => ?_⟩))))
  have s2 := sameU (o := .lst ya.reverse) (Same.refl Ha) ha2
  have Wa := (W.same sa)
  have nA := Wa.new ha2
  have Wb := Wa.same s2
  refine tCons_i (tRevL_i (lc_pts mir rfl Wb.eF Wb.pF (by omega) (fun p H' N s h => ⟨_, rfl, _, rfl, _, rfl, by show 2 ≤ sizeLine; decide, fun T hT => h T hT⟩) (fun p => rfl) fun Hb D yb sb nb eb pb => ⟨D, yb, rfl, sql eb, fun D2 hd2 => ?_⟩))
  have s4 := sameU (o := .lst yb.reverse) (Same.refl Hb) hd2
  have nD := (Wb.same sb).new hd2
  have s24 : Same Ha (upd Hb D2 (.lst yb.reverse)) := fun b u q => s4 _ _ (sb _ _ (s2 _ _ q))
  refine appN_e (E := E) (σ := sP a O L F Tb Pl k0 n) ((((N.same sa).same s2).same sb).same s4) (by decide) nA.2 nD.2 ⟨ya.reverse, yb.reverse, _, _, nA.1, nD.1, s4 _ _ (sb _ _ upd_same), paired_rev (Paired.kt pt_kt (same_kt s24) pa), upd_same, paired_rev (Paired.kt pt_kt (same_kt s4) pb), c.fe.mir, by rw [List.length_reverse, List.length_map]; omega, fun p hp => ?_, by rw [List.length_reverse, List.length_map]; exact c.b0, by rw [List.length_reverse, List.length_map]; omega, fun C1 E1 hC hE => field_mir c.fe c.fo hC hE⟩ k
  obtain ⟨q, hq, rfl⟩ := List.mem_map.mp (List.mem_reverse.mp hp)
  have := c.bd q hq
  unfold mir Sm
  simp only
  omega
theorem st_grow (c : LawC ps Bf k0 n) (N : LawN O L F Pl Tb b us us4 ps Bf wb H 3) (k : ∀ H', LawN O L F Pl Tb b us us4 ps Bf wb H' 4 → E.nx (sP a O L F Tb Pl k0 n) H') :
    tDrop (tBM K "list" rAppend (tVar 7) (tCons (tTup (tCons (tLc (iList K (tVar 2)) (gTup K 2 (gCons (gName 8) (gCons (gName 9) gNil))) tYes (tTup (tCons (tOp (rI CMul fun i j => V.int (i * j)) (tVar 5) (tVar 8)) (tCons (tOp (rI CMul fun i j => V.int (i * j)) (tVar 5) (tVar 9)) tNil))) [8, 9])
      (tCons (tLc (iList K (tVar 3)) (gTup K 2 (gCons (gName 8) (gCons (gName 9) gNil))) tYes (tTup (tCons (tOp (rI CMul fun i j => V.int (i * j)) (tVar 5) (tVar 8)) (tCons (tOp (rI CMul fun i j => V.int (i * j)) (tVar 5) (tVar 9)) tNil))) [8, 9]) tNil))) tNil)) E (sP a O L F Tb Pl k0 n) H := by
  have ln := c.ln
  have b1 := c.b1
  have k1 := c.k1
  have k2 := c.k2
  obtain ⟨x, xs, e, W⟩ := id N
  have em : (fun v : Pt => (((1 + k0) * v.1, (1 + k0) * v.2) : Pt)) = grow (1 + k0) (0, 0) := funext fun v => by unfold grow; simp
  refine ⟨_, rfl, .inl ⟨rfl, _, sql W.eB⟩, ?_⟩
  refine tCons_i (tTup_i (tCons_i (lc_pts (fun v => ((1 + k0) * v.1, (1 + k0) * v.2)) rfl W.eL W.pp (by omega) (fun p H' N s h => ⟨_, rfl, _, rfl, _, _, rfl, rfl, .inl ⟨by omega, by omega⟩, _, rfl, _, rfl, _, _, rfl, rfl, .inl ⟨by omega, by omega⟩, by show 2 ≤ sizeLine; decide, fun T hT => h T hT⟩) (fun p => rfl) fun Ha A ya sa na ea pa => ?_)))
  have Wa := W.same sa
  have nA := W.new na
  refine tCons_i (lc_pts (fun v => ((1 + k0) * v.1, (1 + k0) * v.2)) rfl Wa.eF Wa.pF (by omega) (fun p H' N s h => ⟨_, rfl, _, rfl, _, _, rfl, rfl, .inl ⟨by omega, by omega⟩, _, rfl, _, rfl, _, _, rfl, rfl, .inl ⟨by omega, by omega⟩, by show 2 ≤ sizeLine; decide, fun T hT => h T hT⟩) (fun p => rfl) fun Hb D yb sb nb eb pb => ?_)
  have nD := Wa.new nb
  rw [em] at pa pb
  refine appN_e (E := E) (σ := sP a O L F Tb Pl k0 n) ((N.same sa).same sb) (by decide) nA.2 nD.2 ⟨ya, yb, _, _, nA.1, nD.1, sb _ _ ea, Paired.kt pt_kt (same_kt sb) pa, eb, pb, c.fe.grow (by omega) _, by rw [List.length_map]; omega, fun p hp => ?_, by rw [List.length_map]; exact c.b0, by rw [List.length_map]; omega, fun C1 E1 hC hE => field_grow (by omega) _ c.fe c.fo hC hE⟩ k
  obtain ⟨q, hq, rfl⟩ := List.mem_map.mp hp
  have := c.bd q hq
  have ck : k0 = 0 ∨ k0 = 1 ∨ k0 = 2 ∨ k0 = 3 ∨ k0 = 4 := by omega
  unfold grow Sm
  simp only
  rcases ck with rfl | rfl | rfl | rfl | rfl
  all_goals omega
theorem st_rot (c : LawC ps Bf k0 n) (N : LawN O L F Pl Tb b us us4 ps Bf wb H 4) (k : ∀ H', LawN O L F Pl Tb b us us4 ps Bf wb H' 5 → E.nx (sP a O L F Tb Pl k0 n) H') :
    tDrop (tBM K "list" rAppend (tVar 7) (tCons (tTup (tCons (tOp rCat (tSl (rSlL K) (tVar 2) (tPart (tVar 6)) tNoPart) (tSl (rSlL K) (tVar 2) tNoPart (tPart (tVar 6)))) (tCons (tVar 3) tNil))) tNil)) E (sP a O L F Tb Pl k0 n) H := by
  have ln := c.ln
  have b1 := c.b1
  have hn := c.hn
  obtain ⟨x, xs, e, W⟩ := id N
  have hlu : us.length = ps.length := W.pp.length
  have c1 : cutV us (some (n : Int)) none = us.drop n := cutA (by omega)
  have c2 : cutV us none (some (n : Int)) = us.take n := cutT n
  refine ⟨_, rfl, .inl ⟨rfl, _, sql W.eB⟩, ?_⟩
  refine ⟨_, rfl, _, rfl, _, rfl, L, us, rfl, sql W.eL, fun l1 hl1 => ?_⟩
  rw [c1]
  have x1 := sameU (o := .lst (us.drop n)) (Same.refl H) hl1
  refine ⟨_, rfl, _, rfl, _, rfl, L, us, rfl, sql (x1 _ _ W.eL), fun l2 hl2 => ?_⟩
  rw [c2]
  have x2 := sameU (o := .lst (us.take n)) (Same.refl _) hl2
  refine ⟨l1, l2, _, _, rfl, rfl, x2 _ _ upd_same, upd_same, ?_, fun R hR => ?_⟩
  · rw [← List.length_append]
    exact Nat.le_trans (show (us.drop n ++ us.take n).length ≤ 21 by simp; omega) (by decide)
  have x3 := sameU (o := .lst (us.drop n ++ us.take n)) (Same.refl _) hR
  have x13 : Same H (upd (upd (upd H l1 (.lst (us.drop n))) l2 (.lst (us.take n))) R (.lst (us.drop n ++ us.take n))) := fun b u q => x3 _ _ (x2 _ _ (x1 _ _ q))
  have nR := ((W.same x1).same x2).new hR
  have Wr := W.same x13
  have eqs : ps.take n ++ ps.drop n = ps := List.take_append_drop n ps
  refine ⟨_, rfl, appN_e (E := E) (σ := sP a O L F Tb Pl k0 n) (N.same x13) (by decide) nR.2 W.nFB ⟨_, us4, ps.drop n ++ ps.take n, Bf, nR.1, W.nF, upd_same, Paired.app (Paired.drop n Wr.pp) (Paired.take n Wr.pp), Wr.eF, Wr.pF, Fen.rot (by rw [eqs]; exact c.fe), by simp; omega, fun p hp => ?_, c.b0, by omega, fun C1 E1 hC hE => field_rot (a := ps.take n) (b := ps.drop n) (by rw [eqs]; exact c.fe) (by rw [eqs]; exact c.fo) hC hE⟩ k⟩
  have hp2 : p ∈ ps := by
    rcases List.mem_append.mp hp with g | g
    · exact List.mem_of_mem_drop g
    · exact List.mem_of_mem_take g
  have := c.bd p hp2
  unfold Sm
  omega
theorem hv_mem {E : List ((Pt × Pt) × Bool)} {v : Pt} (h : v ∈ hv E) : ∃ x ∈ E, v = dbl x.1.1 ∨ v = addP x.1.1 x.1.2 := by
  unfold hv at h
  obtain ⟨x, hx, hv⟩ := List.mem_flatMap.mp h
  refine ⟨x, hx, ?_⟩
  split at hv
  · rcases List.mem_cons.mp hv with e | hv
    · exact .inl e
    · exact .inr (List.mem_singleton.mp hv)
  · exact .inl (List.mem_singleton.mp hv)
theorem st_hv (c : LawC ps Bf k0 n) (hb : b < 2 ^ 19) (N : LawN O L F Pl Tb b us us4 ps Bf wb H 5) (k : ∀ H', LawN O L F Pl Tb (b + 40) us us4 ps Bf wb H' 6 → E.nx (sP a O L F Tb Pl k0 n) H') :
    tDrop (tBM K "list" rAppend (tVar 7) (tCons (tTup (tCons (tCall spHalved [] C8.E0 (tCons (tVar 1) (tCons (tVar 2) tNil)))
      (tCons (tLc (iList K (tVar 3)) (gTup K 2 (gCons (gName 8) (gCons (gName 9) gNil))) tYes (tTup (tCons (tOp (rI CMul fun i j => V.int (i * j)) (tC (V.int 2)) (tVar 8)) (tCons (tOp (rI CMul fun i j => V.int (i * j)) (tC (V.int 2)) (tVar 9)) tNil))) [8, 9]) tNil))) tNil)) E (sP a O L F Tb Pl k0 n) H := by
  have ln := c.ln
  have b1 := c.b1
  have hn := c.hn
  obtain ⟨x, xs, e, W⟩ := id N
  refine ⟨_, rfl, .inl ⟨rfl, _, sql W.eB⟩, _, rfl, _, rfl, O, L, b, us, ps, rfl, W.oX.orch, hb, W.nL, W.eL, W.pp, by omega, by omega, fun Ha A ya E2 bxa oa na ea eE pa => ?_⟩
  have nA := W.new na
  have Wa := W.bx bxa oa
  have Na : LawN O L F Pl Tb (b + 40) us us4 ps Bf wb Ha 5 := ⟨x, xs, e, Wa⟩
  refine tCons_i (lc_pts dbl rfl Wa.eF Wa.pF (by omega) (fun p H' N s h => ⟨_, rfl, _, _, rfl, rfl, .inl ⟨by decide, by decide⟩, _, rfl, _, _, rfl, rfl, .inl ⟨by decide, by decide⟩, by show 2 ≤ sizeLine; decide, fun T hT => h T hT⟩) (fun p => rfl) fun Hb D yb sb nb eb pb => ?_)
  have nD := Wa.new nb
  have lE : E2.length = ps.length := by
    have := congrArg List.length eE
    rw [List.length_map, cyc_n] at this
    exact this
  have lh := hv_len E2
  refine appN_e (E := E) (σ := sP a O L F Tb Pl k0 n) (Na.same sb) (by decide) nA.2 nD.2 ⟨ya, yb, _, _, nA.1, nD.1, sb _ _ ea, Paired.kt pt_kt (same_kt sb) pa, eb, pb, hv_fen c.fe eE, by omega, fun p hp => ?_, by rw [List.length_map]; exact c.b0, by rw [List.length_map]; omega, fun C1 E1 hC hE => field_hv c.fe eE c.fo hC hE⟩ k
  obtain ⟨y, hy, q⟩ := hv_mem hp
  have m : y.1 ∈ cyc ps := by rw [← eE]; exact List.mem_map.mpr ⟨y, hy, rfl⟩
  obtain ⟨m1, m2⟩ := mem_cyc m
  have h1 := c.bd _ m1
  have h2 := c.bd _ m2
  rcases q with rfl | rfl
  · unfold dbl Sm
    simp only
    omega
  · unfold addP Sm
    simp only
    omega
end
end Bay
namespace Bay
open PySem PySem.Spec PyProof.Rows L2
open C8 (Cal pe_c Mak pe_mk)
section
variable {P : Program} {w : World} {K : PySem.W.Frag} {mg : Str → Option Value} {base : Heap}
variable {a O L F Tb Pl : Addr} {k0 : Int} {n : Nat} {us us4 : List V} {ps Bf : List Pt} {wb : Pt} {H : Hp} {b : Int} {E : Ends}
abbrev sQ (a O L F Tb Pl : Addr) (k0 : Int) (n : Nat) (x y : Option V) : L2.St := [some (.ref a), some (.ref O), some (.ref L), some (.ref F), some (.ref Tb), some (.int (1 + k0)), some (.int n), some (.ref Pl), none, none, x, y, none, none]
theorem st_loop {C : Addr} {m : Nat} (FC : HasF K mg C) (N : LawN O L F Pl Tb b us us4 ps Bf wb H m) (k : ∀ H' x y, Same H H' → E.nx (sQ a O L F Tb Pl k0 n x y) H') :
    tFor (iList K (tVar 7)) (gTup K 2 (gCons (gName 10) (gCons (gName 11) gNil))) (tIfS (tTest (tOp rNe (tCB (rRepr K) (tCons (tFld K (tCall (spEnd C) [] C8.E0 (tCons (tMake C (spInit (K := K) C) [V.bl false] C8.E0 (tCons (tVar 10) tNil)) tNil)) "corners") tNil))
      (tCB (rRepr K) (tCons (tCall spBegun [] C8.E0 (tCons (tVar 11) tNil)) tNil)))) (tRet (tC (V.bl false))) tNext) E (sP a O L F Tb Pl k0 n) H := by
  obtain ⟨x, xs, e, W⟩ := N
  refine ⟨_, rfl, Pl, rfl, ⟨_, sql W.eB⟩, ?_⟩
  refine for_it (walk_list (xs := .ref x :: xs)) (fun i σ H' => Same H H' ∧ ∃ o10 o11, σ = sQ a O L F Tb Pl k0 n o10 o11) ⟨Same.refl H, _, _, rfl⟩ (fun i σ H' hi p => sql (p.1 _ _ W.eB)) (fun i y σ H0 H' hi p Y => ?_) (fun σ H' p => ?_)
  · obtain ⟨rfl, ey⟩ := Y
    obtain ⟨s1, o10, o11, rfl⟩ := p
    obtain ⟨T, A, D, rfl, eT, nA, nD, g⟩ := W.prs _ (List.mem_of_getElem? ey)
    obtain ⟨ya, yd, l, e', n1, n2, eA, pA, eD, pD, fl, ll, sl, e0, e1, hl⟩ := g.ex
    refine ⟨T, _, rfl, sqt (s1 _ _ eT), rfl, _, _, rfl, ?_⟩
    refine ⟨_, _, rfl, ?_⟩
    refine ⟨rfl, ?_⟩
    refine ⟨_, rfl, ?_⟩
    intro x3 dx3 hx hdx ne
    refine init_fen hx hdx ne (s1 _ _ eA) (Paired.kt pt_kt (same_kt s1) pA) ll sl fl fun H3 s3 f3 => ⟨rfl, ?_⟩
    refine ⟨.ref x3, l, rfl, f3, fl, ll, sl, fun H4 v4 Bc s4 f4 fo sB b0 b1 => ?_⟩
    obtain ⟨a4, dx, c, t4, us4, ss4, rfl, f1, f2, f5, f6, f7⟩ := f4.ex
    obtain ⟨r1, r2, r3, r4⟩ := shows_pts (ps := Bc) (fun q hq => (sB q hq).mono (by decide)) (by omega)
    have s14 : Same H H4 := fun b u q => s4 _ _ (s3 _ _ (s1 _ _ q))
    refine ⟨a4, C, dx, _, _, rfl, f1, FC.ins.cl, FC.n1, rfl, c, .tuple (Bc.map dPt), rfl, .tup f2.sq (dp_pts f5), r1, r2, r3, r4, ?_⟩
    refine ⟨_, rfl, D, yd, e', rfl, s14 _ _ eD, Paired.kt pt_kt (same_kt s14) pD, e0, e1, fun H5 Tt ts Eb s5 eTt pTs hb => ?_⟩
    have eq := hl Bc Eb fo hb
    subst eq
    refine ⟨Tt, .tuple (Eb.map dPt), rfl, .tup (sqt eTt) (dp_pts pTs), r1, r2, r3, r4, rfl, ?_⟩
    refine ⟨_, rfl, ite_t (fun h => ?_) (fun _ => ?_)⟩
    · simp at h
    · exact ⟨fun b u q => s5 _ _ (s14 _ _ q), _, _, rfl⟩
  · obtain ⟨s1, o10, o11, rfl⟩ := p
    exact k H' _ _ s1
theorem ht_quar (ps : List Pt) : (ps.map quar).map (ht (0, 1)) = ps.map (ht (1, 0)) := by
  rw [List.map_map]
  refine List.map_congr_left fun v _ => ?_
  show 0 * (-v.2) + 1 * v.1 = 1 * v.1 + 0 * v.2
  omega
theorem way_quar (ps : List Pt) : (((sid (ps.map quar)).map (ht (0, 1))).map absI).sum = (((sid ps).map (ht (1, 0))).map absI).sum := by
  rw [sid_quar, ht_quar (sid ps)]
theorem st_end {C : Addr} {x y : Option V} (FC : HasF K mg C) (c : LawC ps Bf k0 n) (eL : H L = some (.lst us)) (pp : Pts H us ps) (k : ∀ H', E.rt (.bl true) H') :
    tSeq (tPar 12 13 (tCons (tMake C (spInit (K := K) C) [V.bl false] C8.E0 (tCons (tVar 2) tNil)) (tCons (tMake C (spInit (K := K) C) [V.bl false] C8.E0 (tCons (tCall spQuarter [] C8.E0 (tCons (tVar 2) tNil)) tNil)) tNil)))
      (tRet (tOp (rEqD K) (tLst (tCons (tCall (spWay2 C) [] C8.E0 (tCons (tVar 12) (tCons (tTup (tCons (tC (V.int 1)) (tCons (tC (V.int 0)) tNil))) tNil))) (tCons (tCall (spWid C) [] C8.E0 (tCons (tVar 12) (tCons (tTup (tCons (tC (V.int 1)) (tCons (tC (V.int 0)) tNil))) tNil))) tNil)))
        (tLst (tCons (tCall (spWay2 C) [] C8.E0 (tCons (tVar 13) (tCons (tTup (tCons (tC (V.int 0)) (tCons (tC (V.int 1)) tNil))) tNil))) (tCons (tCall (spWid C) [] C8.E0 (tCons (tVar 13) (tCons (tTup (tCons (tC (V.int 0)) (tCons (tC (V.int 1)) tNil))) tNil))) tNil))))) E (sQ a O L F Tb Pl k0 n x y) H := by
  have ln := c.ln
  have hn := c.hn
  have sm28 : ∀ p ∈ ps, Sm (2 ^ 28) p := sm_bd c.bd (by decide)
  refine ⟨_, rfl, ?_⟩
  intro x1 dx1 hx1 hd1 ne1
  refine init_fen hx1 hd1 ne1 eL pp (by omega) sm28 c.fe fun H1 s1 f1 => ⟨rfl, ?_⟩
  have pp1 : Pts H1 us ps := Paired.kt pt_kt (same_kt s1) pp
  refine ⟨_, rfl, L, us, ps, rfl, s1 _ _ eL, pp1, by omega, fun H2 D yd s2 nd ed pd => ?_⟩
  intro x2 dx2 hx2 hd2 ne2
  refine init_fen hx2 hd2 ne2 ed pd (by rw [List.length_map]; omega) (fun p hp => ?_) c.fe.quar fun H3 s3 f3 => ⟨rfl, ?_⟩
  · obtain ⟨q, hq, rfl⟩ := List.mem_map.mp hp
    have := c.bd q hq
    unfold quar Sm
    simp only
    omega
  have f1' := (f1.same s2).same s3
  refine ⟨_, _, rfl, ?_⟩
  refine ⟨_, rfl, by show 2 ≤ sizeLine; decide, fun t1 h1 => ?_⟩
  have u1 := sameU (o := .tup [.int 1, .int 0]) (Same.refl H3) h1
  refine ⟨.ref x1, .ref t1, ps, (1, 0), rfl, f1'.same u1, ⟨t1, rfl, upd_same⟩, by unfold Sm; simp only; omega, by omega, fun H4 s4 => ?_⟩
  have f4 := (f1'.same u1).same s4
  refine ⟨_, rfl, by show 2 ≤ sizeLine; decide, fun t2 h2 => ?_⟩
  have u2 := sameU (o := .tup [.int 1, .int 0]) (Same.refl H4) h2
  refine ⟨.ref x1, .ref t2, ps, (1, 0), rfl, f4.same u2, ⟨t2, rfl, upd_same⟩, by unfold Sm; simp only; omega, by omega, by omega, fun H5 z s5 hz => ?_⟩
  refine ⟨by show 2 ≤ sizeLine; decide, fun l1 hl1 => ?_⟩
  have u3 := sameU (o := .lst [.int (((sid ps).map (ht (1, 0))).map absI).sum, .int z]) (Same.refl H5) hl1
  have g1 := upd_same (H := H5) (a := l1) (o := .lst [.int (((sid ps).map (ht (1, 0))).map absI).sum, .int z])
  have s35 : Same H3 (upd H5 l1 (.lst [.int (((sid ps).map (ht (1, 0))).map absI).sum, .int z])) := fun b u q => u3 _ _ (s5 _ _ (u2 _ _ (s4 _ _ (u1 _ _ q))))
  have f3' := f3.same s35
  refine ⟨_, rfl, by show 2 ≤ sizeLine; decide, fun t3 h3 => ?_⟩
  have u4 := sameU (o := .tup [.int 0, .int 1]) (Same.refl _) h3
  refine ⟨.ref x2, .ref t3, ps.map quar, (0, 1), rfl, f3'.same u4, ⟨t3, rfl, upd_same⟩, by unfold Sm; simp only; omega, by rw [List.length_map]; omega, fun H6 s6 => ?_⟩
  have f6 := (f3'.same u4).same s6
  refine ⟨_, rfl, by show 2 ≤ sizeLine; decide, fun t4 h4 => ?_⟩
  have u5 := sameU (o := .tup [.int 0, .int 1]) (Same.refl H6) h4
  refine ⟨.ref x2, .ref t4, ps.map quar, (0, 1), rfl, f6.same u5, ⟨t4, rfl, upd_same⟩, by unfold Sm; simp only; omega, by rw [List.length_map]; omega, by rw [List.length_map]; omega, fun H7 z' s7 hz' => ?_⟩
  rw [ht_quar] at hz'
  have ez := IsWid.uniq hz hz'
  subst ez
  rw [way_quar]
  refine ⟨by show 2 ≤ sizeLine; decide, fun l2 hl2 => ?_⟩
  have u6 := sameU (o := .lst [.int (((sid ps).map (ht (1, 0))).map absI).sum, .int z]) (Same.refl H7) hl2
  have g1' := u6 _ _ (s7 _ _ (u5 _ _ (s6 _ _ (u4 _ _ g1))))
  generalize (((sid ps).map (ht (1, 0))).map absI).sum = s at g1 g1' ⊢
  refine ⟨.list ([s, z].map PyData.int), .list ([s, z].map PyData.int), .lst (sql g1') (dp_ints [s, z]), .lst (sql upd_same) (dp_ints [s, z]), shp_ints _, shp_ints _, ?_⟩
  have e : PyData.eqv (.list ([s, z].map PyData.int)) (.list ([s, z].map PyData.int)) = true := by
    show ((s == s) && ((z == z) && true)) = true
    simp
  rw [e]
  exact k _
end
end Bay
namespace Bay
open PySem PySem.Spec PyProof.Rows L2
open C8 (Cal pe_c Mak pe_mk)
section
variable {P : Program} {w : World} {K : PySem.W.Frag} {mg : Str → Option Value} {base : Heap}
theorem scLaw : FnScope ["_law_script", "_law_orchard_here", "_law_corners", "_law_field", "_law_by", "_law_factor", "_law_at", "_law_pairs", "_law_x", "_law_y", "_law_one", "_law_due", "_law_whole", "_law_quarters"] ["_law_script"] (defScope s_law) := ⟨rfl, rfl, rfl, by decide +kernel, rfl, by decide +kernel, by decide +kernel⟩
theorem law_body {C : Addr} (B : Bn mg) (FC : HasF K mg C) (M_Fence : Mak P w K mg base 7 "Fence" C (spInit (K := K) C) [.bl false]) (C_end_of : Cal P w K mg base 11 "end_of" (spEnd C) []) (C_way_in : Cal P w K mg base 4 "way_in" (spWay2 C) []) (C_width_in : Cal P w K mg base 4 "width_in" (spWid C) [])
    (C_law_orchard : Cal P w K mg base 1 "_law_orchard" (spOrchard (K := K)) []) (C_law_prune : Cal P w K mg base 1 "_law_prune" spPrune []) (C_law_fence : Cal P w K mg base 7 "_law_fence" spFence []) (C_law_begun : Cal P w K mg base 1 "_law_begun" spBegun []) (C_law_quarter : Cal P w K mg base 1 "_law_quarter" spQuarter [])
    (C_law_halved : Cal P w K mg base 2 "_law_halved" spHalved []) {f a : Addr} {ns : List Int} {cdv : Value} {s : Shared} {H : Hp} {E : XK} (hr : Room 11 (callerA.deeper (envOfC "law" (defScope s_law) s.heap.objs.size f cdv))) (hS : SqL K H a (ns.map V.int)) :
    ∃ t, PSs (cxOf CX0 P w K mg base ["_law_script", "_law_orchard_here", "_law_corners", "_law_field", "_law_by", "_law_factor", "_law_at", "_law_pairs", "_law_x", "_law_y", "_law_one", "_law_due", "_law_whole", "_law_quarters"] "law" (defScope s_law) f cdv callerA [] s H E).nox (defBody s_law) t ∧ t { nx := fun _ _ => V.non = V.bl true, rt := fun v _ => v = .bl true } (start ["_law_script", "_law_orchard_here", "_law_corners", "_law_field", "_law_by", "_law_factor", "_law_at", "_law_pairs", "_law_x", "_law_y", "_law_one", "_law_due", "_law_whole", "_law_quarters"] [.ref a]) H := by
  refine ⟨_, (pss_cons (ps_set (i := 1) scLaw.nd rfl (Or.inl rfl) (pe_c C_law_orchard hr (by decide) rfl (pa_cons (pv 0) pa_nil)))
 (pss_cons (ps_set (i := 2) scLaw.nd rfl (Or.inl rfl) (pe_c C_law_fence hr (by decide) rfl (pa_cons (pv 1) pa_nil)))
 (pss_cons (ps_set (i := 3) scLaw.nd rfl (Or.inl rfl) (pe_callTy call_list_of (by rfl) B.list (by decide +kernel) (pa_cons (pe_fld (pe_c C_end_of hr (by decide) rfl (pa_cons (pe_mk M_Fence hr (by decide) rfl (pa_cons (pv 2) pa_nil)) pa_nil)) rfl) pa_nil)))
 (pss_cons (ps_asg (pe_tup (pa_cons (pe_tup (pa_cons (pe_op op_sub (pe_c C_law_prune hr (by decide) rfl (pa_cons (pv 1) (pa_cons pe_int pa_nil))) pe_int) (pa_cons (pe_c C_law_prune hr (by decide) rfl (pa_cons (pv 1) (pa_cons (pe_op op_pow pe_int pe_int) pa_nil))) pa_nil))) (pa_cons (pe_op op_add pe_int (pe_c C_law_prune hr (by decide) rfl (pa_cons (pv 1) (pa_cons pe_int pa_nil)))) pa_nil))) (pg_tup rfl (pgs_cons (pg_name (i := 4) scLaw.nd rfl (Or.inr rfl)) (pgs_cons (pg_name (i := 5) scLaw.nd rfl (Or.inr rfl)) pgs_nil))))
 (pss_cons (ps_set (i := 6) scLaw.nd rfl (Or.inl rfl) (pe_c C_law_prune hr (by decide) rfl (pa_cons (pv 1) (pa_cons (pe_callB call_len_seq (by rfl) B.len (by decide +kernel) (pa_cons (pv 2) pa_nil)) pa_nil))))
 (pss_cons (ps_set (i := 7) scLaw.nd rfl (Or.inl rfl) (pe_lst (pa_cons (pe_tup (pa_cons (pe_lc (own := [("_law_x", 8), ("_law_y", 9)]) rfl scLaw.nd (pi_list (pv 2)) (blkOk_by (N := ["_law_script", "_law_orchard_here", "_law_corners", "_law_field", "_law_by", "_law_factor", "_law_at", "_law_pairs", "_law_x", "_law_y", "_law_one", "_law_due", "_law_whole", "_law_quarters"]) (sc := defScope s_law) (by decide +kernel)) (fun _ _ _ _ _ => (tgk K 2 rfl (pgs_cons (pg_name (i := 8) scLaw.nd rfl (Or.inl rfl)) (pgs_cons (pg_name (i := 9) scLaw.nd rfl (Or.inl rfl)) pgs_nil)))) (fun _ _ _ _ _ => pts_nil) (fun _ _ _ _ _ => (pe_tup (pa_cons (pe_op op_add (pv 8) (ixk K (pv 4) pe_int)) (pa_cons (pe_op op_add (pv 9) (ixk K (pv 4) pe_int)) pa_nil))))) (pa_cons (pe_lc (own := [("_law_x", 8), ("_law_y", 9)]) rfl scLaw.nd (pi_list (pv 3)) (blkOk_by (N := ["_law_script", "_law_orchard_here", "_law_corners", "_law_field", "_law_by", "_law_factor", "_law_at", "_law_pairs", "_law_x", "_law_y", "_law_one", "_law_due", "_law_whole", "_law_quarters"]) (sc := defScope s_law) (by decide +kernel)) (fun _ _ _ _ _ => (tgk K 2 rfl (pgs_cons (pg_name (i := 8) scLaw.nd rfl (Or.inl rfl)) (pgs_cons (pg_name (i := 9) scLaw.nd rfl (Or.inl rfl)) pgs_nil)))) (fun _ _ _ _ _ => pts_nil) (fun _ _ _ _ _ => (pe_tup (pa_cons (pe_op op_add (pv 8) (ixk K (pv 4) pe_int)) (pa_cons (pe_op op_add (pv 9) (ixk K (pv 4) pe_int)) pa_nil))))) pa_nil))) pa_nil)))
 (C8.pss_cut (ps_expr (pe_bm PySem.F.plainAttrs_list PySem.F.slot_list_append PySem.F.type_list_append mt_append (pv 7) (pa_cons (pe_tup (pa_cons (pe_c C_law_quarter hr (by decide) rfl (pa_cons (pv 2) pa_nil)) (pa_cons (pe_c C_law_quarter hr (by decide) rfl (pa_cons (pv 3) pa_nil)) pa_nil))) pa_nil)))
 (C8.pss_cut (ps_expr (pe_bm PySem.F.plainAttrs_list PySem.F.slot_list_append PySem.F.type_list_append mt_append (pv 7) (pa_cons (pe_tup (pa_cons (pe_revL (pe_lc (own := [("_law_x", 8), ("_law_y", 9)]) rfl scLaw.nd (pi_list (pv 2)) (blkOk_by (N := ["_law_script", "_law_orchard_here", "_law_corners", "_law_field", "_law_by", "_law_factor", "_law_at", "_law_pairs", "_law_x", "_law_y", "_law_one", "_law_due", "_law_whole", "_law_quarters"]) (sc := defScope s_law) (by decide +kernel)) (fun _ _ _ _ _ => (tgk K 2 rfl (pgs_cons (pg_name (i := 8) scLaw.nd rfl (Or.inl rfl)) (pgs_cons (pg_name (i := 9) scLaw.nd rfl (Or.inl rfl)) pgs_nil)))) (fun _ _ _ _ _ => pts_nil) (fun _ _ _ _ _ => (pe_tup (pa_cons (pe_un un_neg (pv 8)) (pa_cons (pv 9) pa_nil)))))) (pa_cons (pe_revL (pe_lc (own := [("_law_x", 8), ("_law_y", 9)]) rfl scLaw.nd (pi_list (pv 3)) (blkOk_by (N := ["_law_script", "_law_orchard_here", "_law_corners", "_law_field", "_law_by", "_law_factor", "_law_at", "_law_pairs", "_law_x", "_law_y", "_law_one", "_law_due", "_law_whole", "_law_quarters"]) (sc := defScope s_law) (by decide +kernel)) (fun _ _ _ _ _ => (tgk K 2 rfl (pgs_cons (pg_name (i := 8) scLaw.nd rfl (Or.inl rfl)) (pgs_cons (pg_name (i := 9) scLaw.nd rfl (Or.inl rfl)) pgs_nil)))) (fun _ _ _ _ _ => pts_nil) (fun _ _ _ _ _ => (pe_tup (pa_cons (pe_un un_neg (pv 8)) (pa_cons (pv 9) pa_nil)))))) pa_nil))) pa_nil)))
 (C8.pss_cut (ps_expr (pe_bm PySem.F.plainAttrs_list PySem.F.slot_list_append PySem.F.type_list_append mt_append (pv 7) (pa_cons (pe_tup (pa_cons (pe_lc (own := [("_law_x", 8), ("_law_y", 9)]) rfl scLaw.nd (pi_list (pv 2)) (blkOk_by (N := ["_law_script", "_law_orchard_here", "_law_corners", "_law_field", "_law_by", "_law_factor", "_law_at", "_law_pairs", "_law_x", "_law_y", "_law_one", "_law_due", "_law_whole", "_law_quarters"]) (sc := defScope s_law) (by decide +kernel)) (fun _ _ _ _ _ => (tgk K 2 rfl (pgs_cons (pg_name (i := 8) scLaw.nd rfl (Or.inl rfl)) (pgs_cons (pg_name (i := 9) scLaw.nd rfl (Or.inl rfl)) pgs_nil)))) (fun _ _ _ _ _ => pts_nil) (fun _ _ _ _ _ => (pe_tup (pa_cons (pe_op op_mul (pv 5) (pv 8)) (pa_cons (pe_op op_mul (pv 5) (pv 9)) pa_nil))))) (pa_cons (pe_lc (own := [("_law_x", 8), ("_law_y", 9)]) rfl scLaw.nd (pi_list (pv 3)) (blkOk_by (N := ["_law_script", "_law_orchard_here", "_law_corners", "_law_field", "_law_by", "_law_factor", "_law_at", "_law_pairs", "_law_x", "_law_y", "_law_one", "_law_due", "_law_whole", "_law_quarters"]) (sc := defScope s_law) (by decide +kernel)) (fun _ _ _ _ _ => (tgk K 2 rfl (pgs_cons (pg_name (i := 8) scLaw.nd rfl (Or.inl rfl)) (pgs_cons (pg_name (i := 9) scLaw.nd rfl (Or.inl rfl)) pgs_nil)))) (fun _ _ _ _ _ => pts_nil) (fun _ _ _ _ _ => (pe_tup (pa_cons (pe_op op_mul (pv 5) (pv 8)) (pa_cons (pe_op op_mul (pv 5) (pv 9)) pa_nil))))) pa_nil))) pa_nil)))
 (C8.pss_cut (ps_expr (pe_bm PySem.F.plainAttrs_list PySem.F.slot_list_append PySem.F.type_list_append mt_append (pv 7) (pa_cons (pe_tup (pa_cons (pe_op op_cat (pe_slice sl_list (pv 2) (po_some (pv 6)) po_none) (pe_slice sl_list (pv 2) po_none (po_some (pv 6)))) (pa_cons (pv 3) pa_nil))) pa_nil)))
 (C8.pss_cut (ps_expr (pe_bm PySem.F.plainAttrs_list PySem.F.slot_list_append PySem.F.type_list_append mt_append (pv 7) (pa_cons (pe_tup (pa_cons (pe_c C_law_halved hr (by decide) rfl (pa_cons (pv 1) (pa_cons (pv 2) pa_nil))) (pa_cons (pe_lc (own := [("_law_x", 8), ("_law_y", 9)]) rfl scLaw.nd (pi_list (pv 3)) (blkOk_by (N := ["_law_script", "_law_orchard_here", "_law_corners", "_law_field", "_law_by", "_law_factor", "_law_at", "_law_pairs", "_law_x", "_law_y", "_law_one", "_law_due", "_law_whole", "_law_quarters"]) (sc := defScope s_law) (by decide +kernel)) (fun _ _ _ _ _ => (tgk K 2 rfl (pgs_cons (pg_name (i := 8) scLaw.nd rfl (Or.inl rfl)) (pgs_cons (pg_name (i := 9) scLaw.nd rfl (Or.inl rfl)) pgs_nil)))) (fun _ _ _ _ _ => pts_nil) (fun _ _ _ _ _ => (pe_tup (pa_cons (pe_op op_mul pe_int (pv 8)) (pa_cons (pe_op op_mul pe_int (pv 9)) pa_nil))))) pa_nil))) pa_nil)))
 (C8.pss_cut (ps_for PassesOwn.never rfl (pi_list (pv 7)) (pg_tup rfl (pgs_cons (pg_name (i := 10) scLaw.nd rfl (Or.inl rfl)) (pgs_cons (pg_name (i := 11) scLaw.nd rfl (Or.inl rfl)) pgs_nil)))
 (pss_one (ps_if (pt_cmpR op_ne (pe_callB (cr_repr rfl hr.units) (by rfl) B.repr (by decide +kernel) (pa_cons (pe_fld (pe_c C_end_of hr (by decide) rfl (pa_cons (pe_mk M_Fence hr (by decide) rfl (pa_cons (pv 10) pa_nil)) pa_nil)) rfl) pa_nil)) (pe_callB (cr_repr rfl hr.units) (by rfl) B.repr (by decide +kernel) (pa_cons (pe_c C_law_begun hr (by decide) rfl (pa_cons (pv 11) pa_nil)) pa_nil)) (nomark _)) (pss_one (ps_ret pe_bl)) pss_nil)))
 (pss_cons (ps_par (i := 12) (j := 13) rfl scLaw.nd rfl rfl (by decide) rfl rfl (pa_cons (pe_mk M_Fence hr (by decide) rfl (pa_cons (pv 2) pa_nil)) (pa_cons (pe_mk M_Fence hr (by decide) rfl (pa_cons (pe_c C_law_quarter hr (by decide) rfl (pa_cons (pv 2) pa_nil)) pa_nil)) pa_nil)) (by rfl))
 (pss_one (ps_ret (pe_cmpR (op_eqD hr.units) (pe_lst (pa_cons (pe_c C_way_in hr (by decide) rfl (pa_cons (pv 12) (pa_cons (pe_tup (pa_cons pe_int (pa_cons pe_int pa_nil))) pa_nil))) (pa_cons (pe_c C_width_in hr (by decide) rfl (pa_cons (pv 12) (pa_cons (pe_tup (pa_cons pe_int (pa_cons pe_int pa_nil))) pa_nil))) pa_nil))) (pe_lst (pa_cons (pe_c C_way_in hr (by decide) rfl (pa_cons (pv 13) (pa_cons (pe_tup (pa_cons pe_int (pa_cons pe_int pa_nil))) pa_nil))) (pa_cons (pe_c C_width_in hr (by decide) rfl (pa_cons (pv 13) (pa_cons (pe_tup (pa_cons pe_int (pa_cons pe_int pa_nil))) pa_nil))) pa_nil))) (nomark _))))))))))))))))), ?_⟩
  refine ⟨_, rfl, a, ns, rfl, hS, fun H1 O s1 nO o1 => ?_⟩
  refine ⟨_, rfl, O, 0, rfl, o1, by decide, fun H2 L us ps bx2 o2 nL eL pp fe bd ln => ?_⟩
  have hlu : us.length = ps.length := pp.length
  have h0 : 0 < ps.length := by have := fe.s.len; omega
  have sm28 : ∀ p ∈ ps, Sm (2 ^ 28) p := sm_bd bd (by decide)
  refine ⟨_, rfl, ?_⟩
  intro x3 dx3 hx hdx ne
  refine init_fen hx hdx ne eL pp (by omega) sm28 fe fun H3 s3 f3 => ⟨rfl, ?_⟩
  refine ⟨.ref x3, ps, rfl, f3, fe, by omega, sm28, fun H4 v4 Bf s4 f4 fo sB b0 b1 => ?_⟩
  obtain ⟨a4, dx, c, t4, us4, ss4, rfl, f1, f2, f5, f6, f7⟩ := f4.ex
  refine ⟨a4, C, dx, _, _, rfl, f1, FC.ins.cl, FC.n1, rfl, c, us4, rfl, .inr f2.sq, fun F hF => ?_⟩
  have bx4 : Bx O H H4 := (((Bx.of s1).trans bx2).same s3).same s4
  have o4 : Orch H4 O (0 + 100) := (o2.same s3).same s4
  have sF := sameU (o := .lst us4) (Same.refl H4) hF
  have eF : (upd H4 F (.lst us4)) F = some (.lst us4) := upd_same
  have nF : F ≠ O := o4.neN hF
  have eL5 := sF _ _ (s4 _ _ (s3 _ _ eL))
  have pp5 : Pts (upd H4 F (.lst us4)) us ps := Paired.kt pt_kt (same_kt fun b u q => sF _ _ (s4 _ _ (s3 _ _ q))) pp
  have pF5 : Pts (upd H4 F (.lst us4)) us4 Bf := Paired.kt pt_kt (same_kt sF) f5
  have o5 : Orch (upd H4 F (.lst us4)) O 100 := (o4.same sF).mono (by decide)
  show tSeq _ _ _ _ (upd H4 F (.lst us4))
  generalize upd H4 F (.lst us4) = H5 at eF eL5 pp5 pF5 o5 ⊢
  clear f1 f2 f5 f6 f7 f4 sF
  have pw6 : (10 : Int) ^ (6 : Int).toNat = 1000000 := by decide
  refine ⟨_, rfl, O, 99, _, rfl, o5, by decide, by decide, by decide, fun Ha p0 p1 p2 bxa oa => ⟨_, _, rfl, rfl, _, rfl, _, _, rfl, rfl, ⟨by decide, by decide, by decide⟩, O, _, _, rfl, oa, by decide, by rw [pw6]; decide, by rw [pw6]; decide, fun Hb q0 q1 q2 bxb ob => ⟨by show 2 ≤ sizeLine; decide, fun Tb hTb => ?_⟩⟩⟩
  rw [pw6] at q2
  have v1 := sameU (o := .tup [.int (p0 - 49), .int q0]) (Same.refl Hb) hTb
  refine ⟨_, rfl, O, 5, _, rfl, ob.same v1, by decide, by decide, by decide, fun Hc k0 k1 k2 bxc oc => ⟨_, _, rfl, rfl, by show 2 ≤ sizeLine; decide, fun Tt hTt => ?_⟩⟩
  have v2 := sameU (o := .tup [.ref Tb, .int (1 + k0)]) (Same.refl Hc) hTt
  have g1 := v2 _ _ ((bxc.ktO (ob.same v1)) _ _ (upd_same (H := Hb) (a := Tb) (o := .tup [.int (p0 - 49), .int q0])))
  refine ⟨Tt, _, rfl, sqt upd_same, rfl, _, _, rfl, ?_⟩
  refine ⟨_, _, rfl, ?_⟩
  refine ⟨rfl, ?_⟩
  have kt : Kt H5 (upd Hc Tt (.tup [.ref Tb, .int (1 + k0)])) := fun c xs q => v2 _ _ ((bxc.ktO (ob.same v1)) _ _ (v1 _ _ ((bxb.ktO oa) _ _ ((bxa.ktO o5) _ _ q))))
  have bx6 : Bx O H5 (upd Hc Tt (.tup [.ref Tb, .int (1 + k0)])) := (((bxa.trans bxb).same v1).trans bxc).same v2
  have o6 : Orch (upd Hc Tt (.tup [.ref Tb, .int (1 + k0)])) O 103 := (oc.same v2).mono (by decide)
  generalize upd Hc Tt (.tup [.ref Tb, .int (1 + k0)]) = H6 at g1 kt bx6 o6 ⊢
  have eL6 := bx6 _ _ nL eL5
  have eF6 := bx6 _ _ nF eF
  have pp6 : Pts H6 us ps := Paired.kt pt_kt kt pp5
  have pF6 : Pts H6 us4 Bf := Paired.kt pt_kt kt pF5
  refine ⟨_, rfl, _, rfl, L, us, rfl, .inl (sql eL6), O, (us.length : Nat), _, rfl, o6, by decide, by omega, by omega, fun H7 at_ t0 t1 bx7 o7 => ?_⟩
  have kt7 := bx7.ktO o6
  have eL7 := bx7 _ _ nL eL6
  have eF7 := bx7 _ _ nF eF6
  have pp7 : Pts H7 us ps := Paired.kt pt_kt kt7 pp6
  have pF7 : Pts H7 us4 Bf := Paired.kt pt_kt kt7 pF6
  have hby : IsPt H7 (.ref Tb) (p0 - 49, q0) := ⟨Tb, rfl, kt7 _ _ g1⟩
  have lF : us4.length = Bf.length := pF7.length
  obtain ⟨n, rfl⟩ := Int.eq_ofNat_of_zero_le t0
  have hn : n < us.length := by omega
  clear g1 kt bx6 o6 eL6 eF6 pp6 pF6 kt7 bx7 eL5 eF pp5 pF5
  have m28 : ∀ p ∈ ps, (-40 ≤ p.1 ∧ p.1 ≤ 40) ∧ (-40 ≤ p.2 ∧ p.2 ≤ 40) := bd
  -- moved
  have em : (fun v : Pt => ((v.1 + (p0 - 49), v.2 + q0) : Pt)) = grow 1 (p0 - 49, q0) := funext fun v => by unfold grow; simp
  refine ⟨_, rfl, L, rfl, ⟨_, sql eL7⟩, fun D1 n1 => ?_⟩
  refine lc_ptsW (fun v => (v.1 + (p0 - 49), v.2 + q0)) n1 eL7 pp7 (by omega) (fun p H' N s h => ?_) (by intro p; rfl) (fun H8 y1 s8 e1 d1 => ?_)
  · exact ⟨_, rfl, _, rfl, (hby.same s).i0 ⟨_, _, rfl, rfl, _, rfl, _, rfl, (hby.same s).i1 ⟨_, _, rfl, rfl, by show 2 ≤ sizeLine; decide, fun T hT => h T hT⟩⟩⟩
  have eF8 := s8 _ _ eF7
  have pF8 : Pts H8 us4 Bf := Paired.kt pt_kt (same_kt s8) pF7
  refine ⟨_, rfl, F, rfl, ⟨_, sql eF8⟩, fun D2 n2 => ?_⟩
  refine lc_ptsW (fun v => (v.1 + (p0 - 49), v.2 + q0)) n2 eF8 pF8 (by omega) (fun p H' N s h => ?_) (by intro p; rfl) (fun H9 y2 s9 e2 d2 => ?_)
  · have hb := (hby.same s8).same s
    exact ⟨_, rfl, _, rfl, hb.i0 ⟨_, _, rfl, rfl, _, rfl, _, rfl, hb.i1 ⟨_, _, rfl, rfl, by show 2 ≤ sizeLine; decide, fun T hT => h T hT⟩⟩⟩
  rw [em] at d1 d2
  have o8 := o7.same s8
  have o9 := o8.same s9
  have gA : GoodP O H9 D1 D2 := ⟨y1, y2, _, _, o7.neN n1, o8.neN n2, s9 _ _ e1, Paired.kt pt_kt (same_kt s9) d1, e2, d2, fe.grow (by decide) _, by rw [List.length_map]; omega, fun p hp => by
    obtain ⟨q, hq, rfl⟩ := List.mem_map.mp hp
    have := m28 q hq
    unfold grow Sm
    simp only
    omega, by rw [List.length_map]; exact b0, by rw [List.length_map]; omega, fun C1 E1 hC hE => field_grow (by decide) _ fe fo hC hE⟩
  refine ⟨by show 2 ≤ sizeLine; decide, fun T1 hT1 => ⟨by show 1 ≤ sizeLine; decide, fun Pl hPl => ?_⟩⟩
  have x1 := sameU (o := .tup [.ref D1, .ref D2]) (Same.refl H9) hT1
  have x2 := sameU (o := .lst [.ref T1]) (Same.refl _) hPl
  have x12 : Same H7 (upd (upd H9 T1 (.tup [.ref D1, .ref D2])) Pl (.lst [.ref T1])) := fun b u q => x2 _ _ (x1 _ _ (s9 _ _ (s8 _ _ q)))
  have eLx := x1 _ _ (s9 _ _ (s8 _ _ eL7))
  have eFx := x1 _ _ (s9 _ _ eF8)
  have W1 : Law6 O L F Pl Tb 104 us us4 ps Bf (p0 - 49, q0) (upd (upd H9 T1 (.tup [.ref D1, .ref D2])) Pl (.lst [.ref T1])) [.ref T1] :=
    ⟨nL, ne_of_none eLx hPl, nF, ne_of_none eFx hPl, x12 _ _ eL7, Paired.kt pt_kt (same_kt x12) pp7, x12 _ _ eF7, Paired.kt pt_kt (same_kt x12) pF7, hby.same x12, .new (o9.same x1) hPl, upd_same, pr_first gA hT1 hPl⟩
  show tSeq _ _ _ _ (upd (upd H9 T1 (.tup [.ref D1, .ref D2])) Pl (.lst [.ref T1]))
  generalize upd (upd H9 T1 (.tup [.ref D1, .ref D2])) Pl (.lst [.ref T1]) = H10 at W1 ⊢
  clear gA x1 x2 x12 eLx eFx o8 o9 e1 e2 d1 d2 s8 s9 eF8 pF8 hby eL7 eF7 pp7 pF7 o7 em hT1 hPl n1 n2
  have l1000 : ps.length ≤ 1000 := by omega
  have k1000 : Bf.length ≤ 1000 := by omega
  have N1 : LawN O L F Pl Tb 104 us us4 ps Bf (p0 - 49, q0) H10 1 := ⟨T1, [], rfl, W1⟩
  clear W1
  have lc : LawC ps Bf k0 n := ⟨fe, fo, bd, ln, b0, b1, k1, k2, by omega⟩
  refine ⟨fun σ H' => σ = sP a O L F Tb Pl k0 n ∧ LawN O L F Pl Tb 104 us us4 ps Bf (p0 - 49, q0) H' 2, st_quar lc N1 fun H' N => ⟨rfl, N⟩, fun σ H11 hm => ?_⟩
  obtain ⟨rfl, N2⟩ := hm
  refine ⟨fun σ H' => σ = sP a O L F Tb Pl k0 n ∧ LawN O L F Pl Tb 104 us us4 ps Bf (p0 - 49, q0) H' 3, st_mir lc N2 fun H' N => ⟨rfl, N⟩, fun σ H12 hm => ?_⟩
  obtain ⟨rfl, N3⟩ := hm
  refine ⟨fun σ H' => σ = sP a O L F Tb Pl k0 n ∧ LawN O L F Pl Tb 104 us us4 ps Bf (p0 - 49, q0) H' 4, st_grow lc N3 fun H' N => ⟨rfl, N⟩, fun σ H13 hm => ?_⟩
  obtain ⟨rfl, N4⟩ := hm
  refine ⟨fun σ H' => σ = sP a O L F Tb Pl k0 n ∧ LawN O L F Pl Tb 104 us us4 ps Bf (p0 - 49, q0) H' 5, st_rot lc N4 fun H' N => ⟨rfl, N⟩, fun σ H14 hm => ?_⟩
  obtain ⟨rfl, N5⟩ := hm
  refine ⟨fun σ H' => σ = sP a O L F Tb Pl k0 n ∧ LawN O L F Pl Tb (104 + 40) us us4 ps Bf (p0 - 49, q0) H' 6, st_hv lc (by decide) N5 fun H' N => ⟨rfl, N⟩, fun σ H15 hm => ?_⟩
  obtain ⟨rfl, N6⟩ := hm
  refine ⟨fun σ H' => (∃ x y, σ = sQ a O L F Tb Pl k0 n x y) ∧ H' L = some (.lst us) ∧ Pts H' us ps, ?_, fun σ H16 hm => ?_⟩
  · obtain ⟨_, _, _, W⟩ := id N6
    exact st_loop FC N6 fun H' x y s => ⟨⟨x, y, rfl⟩, s _ _ W.eL, Paired.kt pt_kt (same_kt s) W.pp⟩
  · obtain ⟨⟨x, y, rfl⟩, eLz, ppz⟩ := hm
    exact st_end FC lc eLz ppz fun _ => rfl
end
end Bay
namespace Bay
open PySem PySem.Spec PyProof.Rows L2
open C8 (Cal pe_c Mak pe_mk)
def d_is_integer : He.DefD := ⟨("is_integer", none), "is_integer", "is_integer", defArgs s_is_integer, defBody s_is_integer, defScope s_is_integer, [], []⟩
def d_is_point : He.DefD := ⟨("is_point", none), "is_point", "is_point", defArgs s_is_point, defBody s_is_point, defScope s_is_point, [], []⟩
def d_need_point : He.DefD := ⟨("need_point", none), "need_point", "need_point", defArgs s_need_point, defBody s_need_point, defScope s_need_point, [], []⟩
def d_way : He.DefD := ⟨("way", none), "way", "way", defArgs s_way, defBody s_way, defScope s_way, [], []⟩
def d_cross : He.DefD := ⟨("cross", none), "cross", "cross", defArgs s_cross, defBody s_cross, defScope s_cross, [], []⟩
def d_sign_of : He.DefD := ⟨("sign_of", none), "sign_of", "sign_of", defArgs s_sign_of, defBody s_sign_of, defScope s_sign_of, [], []⟩
def d_turn_of : He.DefD := ⟨("turn_of", none), "turn_of", "turn_of", defArgs s_turn_of, defBody s_turn_of, defScope s_turn_of, [], []⟩
def d_is_on : He.DefD := ⟨("is_on", none), "is_on", "is_on", defArgs s_is_on, defBody s_is_on, defScope s_is_on, [], []⟩
def d_are_apart : He.DefD := ⟨("are_apart", none), "are_apart", "are_apart", defArgs s_are_apart, defBody s_are_apart, defScope s_are_apart, [], []⟩
def d_meet_in : He.DefD := ⟨("meet_in", none), "meet_in", "meet_in", defArgs s_meet_in, defBody s_meet_in, defScope s_meet_in, [], []⟩
def d_common : He.DefD := ⟨("common", none), "common", "common", defArgs s_common, defBody s_common, defScope s_common, [], []⟩
def d_pairs_of : He.DefD := ⟨("pairs_of", none), "pairs_of", "pairs_of", defArgs s_pairs_of, defBody s_pairs_of, defScope s_pairs_of, [], []⟩
def d_sides_in : He.DefD := ⟨("sides_in", none), "sides_in", "sides_in", defArgs s_sides_in, defBody s_sides_in, defScope s_sides_in, [], []⟩
def d_area_in : He.DefD := ⟨("area_in", none), "area_in", "area_in", defArgs s_area_in, defBody s_area_in, defScope s_area_in, [], []⟩
def d_goes_on : He.DefD := ⟨("goes_on", none), "goes_on", "goes_on", defArgs s_goes_on, defBody s_goes_on, defScope s_goes_on, [], []⟩
def d_box_of : He.DefD := ⟨("box_of", none), "box_of", "box_of", defArgs s_box_of, defBody s_box_of, defScope s_box_of, [], []⟩
def d_are_apart_in : He.DefD := ⟨("are_apart_in", none), "are_apart_in", "are_apart_in", defArgs s_are_apart_in, defBody s_are_apart_in, defScope s_are_apart_in, [], []⟩
def d_are_corners : He.DefD := ⟨("are_corners", none), "are_corners", "are_corners", defArgs s_are_corners, defBody s_are_corners, defScope s_are_corners, [], []⟩
def d_Fence_init : He.DefD := ⟨("Fence", some "__init__"), "__init__", "Fence.__init__", defArgs s_Fence_init, defBody s_Fence_init, defScope s_Fence_init, [.bl false], []⟩
def d_need_fence : He.DefD := ⟨("need_fence", none), "need_fence", "need_fence", defArgs s_need_fence, defBody s_need_fence, defScope s_need_fence, [.str "fence"], []⟩
def d_is_straight : He.DefD := ⟨("is_straight", none), "is_straight", "is_straight", defArgs s_is_straight, defBody s_is_straight, defScope s_is_straight, [], []⟩
def d_straight_in : He.DefD := ⟨("straight_in", none), "straight_in", "straight_in", defArgs s_straight_in, defBody s_straight_in, defScope s_straight_in, [], []⟩
def d_direction_in : He.DefD := ⟨("direction_in", none), "direction_in", "direction_in", defArgs s_direction_in, defBody s_direction_in, defScope s_direction_in, [], []⟩
def d_is_upper : He.DefD := ⟨("is_upper", none), "is_upper", "is_upper", defArgs s_is_upper, defBody s_is_upper, defScope s_is_upper, [], []⟩
def d_is_ahead : He.DefD := ⟨("is_ahead", none), "is_ahead", "is_ahead", defArgs s_is_ahead, defBody s_is_ahead, defScope s_is_ahead, [], []⟩
def d_numbered : He.DefD := ⟨("numbered", none), "numbered", "numbered", defArgs s_numbered, defBody s_numbered, defScope s_numbered, [], []⟩
def d_past_east : He.DefD := ⟨("past_east", none), "past_east", "past_east", defArgs s_past_east, defBody s_past_east, defScope s_past_east, [], []⟩
def d_lifts_in : He.DefD := ⟨("lifts_in", none), "lifts_in", "lifts_in", defArgs s_lifts_in, defBody s_lifts_in, defScope s_lifts_in, [], []⟩
def d_ranks_in : He.DefD := ⟨("ranks_in", none), "ranks_in", "ranks_in", defArgs s_ranks_in, defBody s_ranks_in, defScope s_ranks_in, [], []⟩
def d_places_in : He.DefD := ⟨("places_in", none), "places_in", "places_in", defArgs s_places_in, defBody s_places_in, defScope s_places_in, [], []⟩
def d_sorted_in : He.DefD := ⟨("sorted_in", none), "sorted_in", "sorted_in", defArgs s_sorted_in, defBody s_sorted_in, defScope s_sorted_in, [], []⟩
def d_field_in : He.DefD := ⟨("field_in", none), "field_in", "field_in", defArgs s_field_in, defBody s_field_in, defScope s_field_in, [], []⟩
def d_least_first : He.DefD := ⟨("least_first", none), "least_first", "least_first", defArgs s_least_first, defBody s_least_first, defScope s_least_first, [], []⟩
def d_heights_in : He.DefD := ⟨("heights_in", none), "heights_in", "heights_in", defArgs s_heights_in, defBody s_heights_in, defScope s_heights_in, [], []⟩
def d_end_of : He.DefD := ⟨("end_of", none), "end_of", "end_of", defArgs s_end_of, defBody s_end_of, defScope s_end_of, [], []⟩
def d_way_in : He.DefD := ⟨("way_in", none), "way_in", "way_in", defArgs s_way_in, defBody s_way_in, defScope s_way_in, [], []⟩
def d_width_in : He.DefD := ⟨("width_in", none), "width_in", "width_in", defArgs s_width_in, defBody s_width_in, defScope s_width_in, [], []⟩
def d_law_orchard : He.DefD := ⟨("_law_orchard", none), "_law_orchard", "_law_orchard", defArgs s_law_orchard, defBody s_law_orchard, defScope s_law_orchard, [], []⟩
def d_law_prune : He.DefD := ⟨("_law_prune", none), "_law_prune", "_law_prune", defArgs s_law_prune, defBody s_law_prune, defScope s_law_prune, [], []⟩
def d_law_pick : He.DefD := ⟨("_law_pick", none), "_law_pick", "_law_pick", defArgs s_law_pick, defBody s_law_pick, defScope s_law_pick, [], []⟩
def d_law_cross : He.DefD := ⟨("_law_cross", none), "_law_cross", "_law_cross", defArgs s_law_cross, defBody s_law_cross, defScope s_law_cross, [], []⟩
def d_law_on : He.DefD := ⟨("_law_on", none), "_law_on", "_law_on", defArgs s_law_on, defBody s_law_on, defScope s_law_on, [], []⟩
def d_law_meet : He.DefD := ⟨("_law_meet", none), "_law_meet", "_law_meet", defArgs s_law_meet, defBody s_law_meet, defScope s_law_meet, [], []⟩
def d_law_clear : He.DefD := ⟨("_law_clear", none), "_law_clear", "_law_clear", defArgs s_law_clear, defBody s_law_clear, defScope s_law_clear, [], []⟩
def d_law_are_clear : He.DefD := ⟨("_law_are_clear", none), "_law_are_clear", "_law_are_clear", defArgs s_law_are_clear, defBody s_law_are_clear, defScope s_law_are_clear, [], []⟩
def d_law_is_left : He.DefD := ⟨("_law_is_left", none), "_law_is_left", "_law_is_left", defArgs s_law_is_left, defBody s_law_is_left, defScope s_law_is_left, [], []⟩
def d_law_grown : He.DefD := ⟨("_law_grown", none), "_law_grown", "_law_grown", defArgs s_law_grown, defBody s_law_grown, defScope s_law_grown, [], []⟩
def d_law_curl : He.DefD := ⟨("_law_curl", none), "_law_curl", "_law_curl", defArgs s_law_curl, defBody s_law_curl, defScope s_law_curl, [], []⟩
def d_law_fence : He.DefD := ⟨("_law_fence", none), "_law_fence", "_law_fence", defArgs s_law_fence, defBody s_law_fence, defScope s_law_fence, [], []⟩
def d_law_begun : He.DefD := ⟨("_law_begun", none), "_law_begun", "_law_begun", defArgs s_law_begun, defBody s_law_begun, defScope s_law_begun, [], []⟩
def d_law_quarter : He.DefD := ⟨("_law_quarter", none), "_law_quarter", "_law_quarter", defArgs s_law_quarter, defBody s_law_quarter, defScope s_law_quarter, [], []⟩
def d_law_halved : He.DefD := ⟨("_law_halved", none), "_law_halved", "_law_halved", defArgs s_law_halved, defBody s_law_halved, defScope s_law_halved, [], []⟩
def d_law : He.DefD := ⟨("law", none), "law", "law", defArgs s_law, defBody s_law, defScope s_law, [], []⟩
def fn : List He.DefD := [d_is_integer, d_is_point, d_need_point, d_way, d_cross, d_sign_of, d_turn_of, d_is_on, d_are_apart, d_meet_in, d_common, d_pairs_of, d_sides_in, d_area_in, d_goes_on, d_box_of, d_are_apart_in, d_are_corners, d_Fence_init, d_need_fence, d_is_straight, d_straight_in, d_direction_in, d_is_upper, d_is_ahead, d_numbered, d_past_east, d_lifts_in, d_ranks_in, d_places_in, d_sorted_in, d_field_in, d_least_first, d_heights_in, d_end_of, d_way_in, d_width_in, d_law_orchard, d_law_prune, d_law_pick, d_law_cross, d_law_on, d_law_meet, d_law_clear, d_law_are_clear, d_law_is_left, d_law_grown, d_law_curl, d_law_fence, d_law_begun, d_law_quarter, d_law_halved, d_law]
def fa1 : List He.Fa := [.glo "is_integer", .glo "is_point", .glo "need_point", .glo "way", .glo "cross", .glo "sign_of", .glo "turn_of", .glo "is_on", .glo "are_apart", .glo "meet_in", .glo "common", .glo "pairs_of", .glo "sides_in", .glo "area_in", .glo "goes_on", .glo "box_of", .glo "are_apart_in", .glo "are_corners", .glo "need_fence", .glo "is_straight", .glo "straight_in", .glo "direction_in", .glo "is_upper", .glo "is_ahead", .glo "numbered", .glo "past_east", .glo "lifts_in", .glo "ranks_in", .glo "places_in", .glo "sorted_in", .glo "field_in", .glo "least_first", .glo "heights_in", .glo "end_of", .glo "way_in", .glo "width_in"]
def fa2 : List He.Fa := [.glo "_law_orchard", .glo "_law_prune", .glo "_law_pick", .glo "_law_cross", .glo "_law_on", .glo "_law_meet", .glo "_law_clear", .glo "_law_are_clear", .glo "_law_is_left", .glo "_law_grown", .glo "_law_curl", .glo "_law_fence", .glo "_law_begun", .glo "_law_quarter", .glo "_law_halved", .glo "law", .glo "Fence", .glo "BadFence", .glo "BadPoint", .free "len", .free "isinstance", .free "int", .free "bool", .free "list", .free "tuple", .free "all", .free "min", .free "max", .free "sorted", .free "abs", .free "zip", .free "sum", .free "range", .free "set", .free "enumerate", .free "divmod"]
def fa3 : List He.Fa := [.free "repr", .int "LEAST_CORNERS" 3, .int "MOST_CORNERS" 400, .cls "Fence", .noat "Fence" "corners", .noat "Fence" "many", .noat "Fence" "sides", .noat "Fence" "area2", .mkr "Fence", .keep "Fence"]
def fa : List He.Fa := fa1 ++ (fa2 ++ fa3)
def nm1 : List PySem.Str := ["_wall", "FenceError", "BadPoint", "BadFence", "BadText", "is_integer", "is_within", "is_point", "need_point", "way", "cross", "sign_of", "turn_of", "is_on", "are_apart", "meet_in", "common", "BAR", "FIGURES", "MOST_FIGURES", "figures_in", "Scan", "LEAST_CORNERS", "MOST_CORNERS", "pairs_of"]
def nm2 : List PySem.Str := ["sides_in", "area_in", "goes_on", "box_of", "are_apart_in", "are_corners", "Fence", "need_fence", "is_straight", "straight_in", "direction_in", "is_upper", "is_ahead", "numbered", "past_east", "lifts_in", "ranks_in", "places_in", "sorted_in", "field_in", "least_first", "heights_in", "end_of", "way_in", "width_in"]
def nm3 : List PySem.Str := ["_law_orchard", "_law_prune", "_law_pick", "_law_cross", "_law_on", "_law_meet", "_law_clear", "_law_are_clear", "_law_is_left", "_law_grown", "_law_curl", "_law_fence", "_law_begun", "_law_quarter", "_law_halved"]
abbrev names : List PySem.Str := nm1 ++ (nm2 ++ nm3)
abbrev R : PySem.W.OpenRow := PySem.W.OpenLaw.row PySem.Challenge.rw_baysout_k40_whole_fields_of_changed_fenc

/-- what isinstance(x, Fence) leans on -/
def insB (K : PySem.W.Frag) : Bool := He.eqO (PySem.W.findIn K (.ref (He.ga K "Fence")) "__class__") (some (some (.builtin "object.__class__"))) && (He.eqO (PySem.W.specialIn K (.builtin "object.__class__") "__get__") (some (some (.builtin "getset_descriptor.__get__"))) &&
  (decide (PySem.W.takesIn K (.builtin "object.__class__") = some true) && (decide (PySem.W.mroIn K (He.ga K "Fence") (.type "object") = some true) && decide (PySem.W.kitOne K (.ref (He.ga K "Fence")) (.ref (He.ga K "Fence")) = some true))))
theorem insB_ok {K : PySem.W.Frag} (h : insB K = true) (c : Cls K (He.ga K "Fence")) : C8.InsC K (He.ga K "Fence") := by
  obtain ⟨h1, h⟩ := He.ba h
  obtain ⟨h2, h⟩ := He.ba h
  obtain ⟨h3, h⟩ := He.ba h
  obtain ⟨h4, h5⟩ := He.ba h
  exact ⟨c, He.eqO_ok h1, He.eqO_ok h2, of_decide_eq_true h3, of_decide_eq_true h4, of_decide_eq_true h5⟩
def obsI (K : PySem.W.Frag) : He.AlD × Bool := (He.obsD fa fn K, insB K)
def valI : He.AlD × Bool := (He.valD fn, true)
def obsIG (g : Addr → Option Obj) : He.AlD × Bool := obsI (He.frG g (He.asD g 4))
def hk : PySem.W.Hook where
  α := He.AlD × Bool
  obs := fun s => obsIG s.heap.get?
  val := fun _ => valI
  says := fun _ h => ∃ K : PySem.W.Frag, K.In h ∧ He.SaysD fa fn K ∧ insB K = true
  of := fun _ _ e => ⟨_, He.frG_in, congrArg (fun z : He.AlD × Bool => z.1) e, congrArg (fun z : He.AlD × Bool => z.2) e⟩
  keeps := fun _ _ _ ⟨K, hK, c⟩ k => ⟨K, PySem.W.Frag.In.keeps hK k, c⟩
def ob (s : PySem.W.SharedT) : He.AlD × Bool := obsIG (HandSHeadRun.getT s)
theorem ob_eq (s : PySem.W.SharedT) : ob s = hk.obs s.abs := by
  show obsIG (HandSHeadRun.getT s) = obsIG s.abs.heap.get?
  rw [show HandSHeadRun.getT s = s.abs.heap.get? from funext fun a => HandSHeadRun.getT_eq s a]
theorem run (w : World) : HandSHeadRun.RunEq R (PySem.W.view R.prog [74]) hk ob 4000 names w := by
  intro os
  kernel_rfl
end Bay
namespace Bay
open PySem PySem.Spec PyProof.Rows L2
open C8 (Cal pe_c Mak pe_mk)
/-- all that the law leans on -/
structure AllH (K : PySem.W.Frag) (mg : Str → Option Value) : Prop where
  B : Bn mg
  hL : ∃ t, mg "LEAST_CORNERS" = some (.int 3 t)
  hM : ∃ t, mg "MOST_CORNERS" = some (.int 400 t)
  FC : HasF K mg (He.ga K "Fence")
  D_need_fence : HasD K mg "need_fence" s_need_fence ["value", "part"] [.str "fence"]
  F_is_integer : Has K mg "is_integer" s_is_integer ["value"]
  F_is_point : Has K mg "is_point" s_is_point ["value"]
  F_need_point : Has K mg "need_point" s_need_point ["value", "part"]
  F_way : Has K mg "way" s_way ["one", "other"]
  F_cross : Has K mg "cross" s_cross ["one", "other"]
  F_sign_of : Has K mg "sign_of" s_sign_of ["number"]
  F_turn_of : Has K mg "turn_of" s_turn_of ["one", "other", "point"]
  F_is_on : Has K mg "is_on" s_is_on ["point", "one", "other"]
  F_are_apart : Has K mg "are_apart" s_are_apart ["one", "other", "third", "fourth"]
  F_meet_in : Has K mg "meet_in" s_meet_in ["one", "other", "third", "fourth"]
  F_common : Has K mg "common" s_common ["one", "other"]
  F_pairs_of : Has K mg "pairs_of" s_pairs_of ["corners"]
  F_sides_in : Has K mg "sides_in" s_sides_in ["corners"]
  F_area_in : Has K mg "area_in" s_area_in ["corners"]
  F_goes_on : Has K mg "goes_on" s_goes_on ["one", "other"]
  F_box_of : Has K mg "box_of" s_box_of ["one", "other"]
  F_are_apart_in : Has K mg "are_apart_in" s_are_apart_in ["corners"]
  F_are_corners : Has K mg "are_corners" s_are_corners ["value"]
  F_is_straight : Has K mg "is_straight" s_is_straight ["fence", "at"]
  F_straight_in : Has K mg "straight_in" s_straight_in ["fence"]
  F_direction_in : Has K mg "direction_in" s_direction_in ["side"]
  F_is_upper : Has K mg "is_upper" s_is_upper ["direction"]
  F_is_ahead : Has K mg "is_ahead" s_is_ahead ["one", "other"]
  F_numbered : Has K mg "numbered" s_numbered ["directions"]
  F_past_east : Has K mg "past_east" s_past_east ["one", "other"]
  F_lifts_in : Has K mg "lifts_in" s_lifts_in ["fence"]
  F_ranks_in : Has K mg "ranks_in" s_ranks_in ["fence"]
  F_places_in : Has K mg "places_in" s_places_in ["ranks", "many"]
  F_sorted_in : Has K mg "sorted_in" s_sorted_in ["fence"]
  F_field_in : Has K mg "field_in" s_field_in ["fence"]
  F_least_first : Has K mg "least_first" s_least_first ["corners"]
  F_heights_in : Has K mg "heights_in" s_heights_in ["points", "by"]
  F_end_of : Has K mg "end_of" s_end_of ["fence"]
  F_way_in : Has K mg "way_in" s_way_in ["fence", "by"]
  F_width_in : Has K mg "width_in" s_width_in ["fence", "by"]
  F__law_orchard : Has K mg "_law_orchard" s_law_orchard ["_law_script"]
  F__law_prune : Has K mg "_law_prune" s_law_prune ["_law_orchard_here", "_law_many"]
  F__law_pick : Has K mg "_law_pick" s_law_pick ["_law_orchard_here", "_law_some"]
  F__law_cross : Has K mg "_law_cross" s_law_cross ["_law_one", "_law_other", "_law_third"]
  F__law_on : Has K mg "_law_on" s_law_on ["_law_one", "_law_other", "_law_third"]
  F__law_meet : Has K mg "_law_meet" s_law_meet ["_law_one", "_law_other", "_law_third", "_law_last"]
  F__law_clear : Has K mg "_law_clear" s_law_clear ["_law_one", "_law_other", "_law_third", "_law_last"]
  F__law_are_clear : Has K mg "_law_are_clear" s_law_are_clear ["_law_side", "_law_rest"]
  F__law_is_left : Has K mg "_law_is_left" s_law_is_left ["_law_corners"]
  F__law_grown : Has K mg "_law_grown" s_law_grown ["_law_orchard_here", "_law_most"]
  F__law_curl : Has K mg "_law_curl" s_law_curl ["_law_rounds"]
  F__law_fence : Has K mg "_law_fence" s_law_fence ["_law_orchard_here"]
  F__law_begun : Has K mg "_law_begun" s_law_begun ["_law_corners"]
  F__law_quarter : Has K mg "_law_quarter" s_law_quarter ["_law_corners"]
  F__law_halved : Has K mg "_law_halved" s_law_halved ["_law_orchard_here", "_law_corners"]
theorem allH {K : PySem.W.Frag} {h : Heap} {mg : Str → Option Value} (X : K.In h) (G : h.Ns mainGlobals mg) (c : He.SaysD fa fn K) (ci : insB K = true) : AllH K mg where
  B := ⟨He.free_ok X G (c.fact 55 (f := .free "len") rfl), He.free_ok X G (c.fact 56 (f := .free "isinstance") rfl), He.free_ok X G (c.fact 57 (f := .free "int") rfl), He.free_ok X G (c.fact 58 (f := .free "bool") rfl), He.free_ok X G (c.fact 59 (f := .free "list") rfl), He.free_ok X G (c.fact 60 (f := .free "tuple") rfl), He.free_ok X G (c.fact 61 (f := .free "all") rfl), He.free_ok X G (c.fact 62 (f := .free "min") rfl), He.free_ok X G (c.fact 63 (f := .free "max") rfl), He.free_ok X G (c.fact 64 (f := .free "sorted") rfl), He.free_ok X G (c.fact 65 (f := .free "abs") rfl), He.free_ok X G (c.fact 66 (f := .free "zip") rfl), He.free_ok X G (c.fact 67 (f := .free "sum") rfl), He.free_ok X G (c.fact 68 (f := .free "range") rfl), He.free_ok X G (c.fact 69 (f := .free "set") rfl), He.free_ok X G (c.fact 70 (f := .free "enumerate") rfl), He.free_ok X G (c.fact 71 (f := .free "divmod") rfl), He.free_ok X G (c.fact 72 (f := .free "repr") rfl)⟩
  hL := He.int_ok X G (c.fact 73 (f := .int "LEAST_CORNERS" 3) rfl)
  hM := He.int_ok X G (c.fact 74 (f := .int "MOST_CORNERS" 400) rfl)
  FC := by
    obtain ⟨fd, F⟩ := c.def_ 18 (d := d_Fence_init) rfl
    refine ⟨insB_ok ci (He.cls_ok (c.fact 75 (f := .cls "Fence") rfl)), He.noat_ok (c.fact 76 (f := .noat "Fence" "corners") rfl), He.noat_ok (c.fact 77 (f := .noat "Fence" "many") rfl), He.noat_ok (c.fact 78 (f := .noat "Fence" "sides") rfl), He.noat_ok (c.fact 79 (f := .noat "Fence" "area2") rfl),
      He.glo_ok X G (c.fact 52 (f := .glo "Fence") rfl), _, fd, He.mkr_ok (c.fact 80 (f := .mkr "Fence") rfl), F, ?_, ?_⟩
    · exact FunD.binds1 F 2 0 (by simp [He.DefD.dvs, d_Fence_init]) (by rfl) fun T kV doc pm an cdv ct us its h1 h2 => match us, h1, its, h2 with | [_, _], _, [_], _ => ⟨_, rfl, rfl⟩
    · exact FunD.binds1 F 3 1 (by simp [He.DefD.dvs, d_Fence_init]) (by rfl) fun T kV doc pm an cdv ct us its h1 h2 => match us, h1, its, h2 with | [_, _, _], _, [_], _ => ⟨_, rfl, rfl⟩
  D_need_fence := by
    obtain ⟨fd, F⟩ := c.def_ 19 (d := d_need_fence) rfl
    refine ⟨_, fd, He.glo_ok X G (c.fact 18 (f := .glo "need_fence") rfl), F, ?_⟩
    exact FunD.binds1 F 1 0 (by simp [He.DefD.dvs, d_need_fence]) (by rfl) fun T kV doc pm an cdv ct us its h1 h2 => match us, h1, its, h2 with | [_], _, [_], _ => ⟨_, rfl, rfl⟩
  F_is_integer := by
    obtain ⟨fd, F⟩ := c.def_ 0 (d := d_is_integer) rfl
    exact ⟨_, fd, He.glo_ok X G (c.fact 0 (f := .glo "is_integer") rfl), F, FunD.bindsN F fun _ _ _ _ _ _ us hl => match us, hl with | [_], _ => rfl⟩
  F_is_point := by
    obtain ⟨fd, F⟩ := c.def_ 1 (d := d_is_point) rfl
    exact ⟨_, fd, He.glo_ok X G (c.fact 1 (f := .glo "is_point") rfl), F, FunD.bindsN F fun _ _ _ _ _ _ us hl => match us, hl with | [_], _ => rfl⟩
  F_need_point := by
    obtain ⟨fd, F⟩ := c.def_ 2 (d := d_need_point) rfl
    exact ⟨_, fd, He.glo_ok X G (c.fact 2 (f := .glo "need_point") rfl), F, FunD.bindsN F fun _ _ _ _ _ _ us hl => match us, hl with | [_, _], _ => rfl⟩
  F_way := by
    obtain ⟨fd, F⟩ := c.def_ 3 (d := d_way) rfl
    exact ⟨_, fd, He.glo_ok X G (c.fact 3 (f := .glo "way") rfl), F, FunD.bindsN F fun _ _ _ _ _ _ us hl => match us, hl with | [_, _], _ => rfl⟩
  F_cross := by
    obtain ⟨fd, F⟩ := c.def_ 4 (d := d_cross) rfl
    exact ⟨_, fd, He.glo_ok X G (c.fact 4 (f := .glo "cross") rfl), F, FunD.bindsN F fun _ _ _ _ _ _ us hl => match us, hl with | [_, _], _ => rfl⟩
  F_sign_of := by
    obtain ⟨fd, F⟩ := c.def_ 5 (d := d_sign_of) rfl
    exact ⟨_, fd, He.glo_ok X G (c.fact 5 (f := .glo "sign_of") rfl), F, FunD.bindsN F fun _ _ _ _ _ _ us hl => match us, hl with | [_], _ => rfl⟩
  F_turn_of := by
    obtain ⟨fd, F⟩ := c.def_ 6 (d := d_turn_of) rfl
    exact ⟨_, fd, He.glo_ok X G (c.fact 6 (f := .glo "turn_of") rfl), F, FunD.bindsN F fun _ _ _ _ _ _ us hl => match us, hl with | [_, _, _], _ => rfl⟩
  F_is_on := by
    obtain ⟨fd, F⟩ := c.def_ 7 (d := d_is_on) rfl
    exact ⟨_, fd, He.glo_ok X G (c.fact 7 (f := .glo "is_on") rfl), F, FunD.bindsN F fun _ _ _ _ _ _ us hl => match us, hl with | [_, _, _], _ => rfl⟩
  F_are_apart := by
    obtain ⟨fd, F⟩ := c.def_ 8 (d := d_are_apart) rfl
    exact ⟨_, fd, He.glo_ok X G (c.fact 8 (f := .glo "are_apart") rfl), F, FunD.bindsN F fun _ _ _ _ _ _ us hl => match us, hl with | [_, _, _, _], _ => rfl⟩
  F_meet_in := by
    obtain ⟨fd, F⟩ := c.def_ 9 (d := d_meet_in) rfl
    exact ⟨_, fd, He.glo_ok X G (c.fact 9 (f := .glo "meet_in") rfl), F, FunD.bindsN F fun _ _ _ _ _ _ us hl => match us, hl with | [_, _, _, _], _ => rfl⟩
  F_common := by
    obtain ⟨fd, F⟩ := c.def_ 10 (d := d_common) rfl
    exact ⟨_, fd, He.glo_ok X G (c.fact 10 (f := .glo "common") rfl), F, FunD.bindsN F fun _ _ _ _ _ _ us hl => match us, hl with | [_, _], _ => rfl⟩
  F_pairs_of := by
    obtain ⟨fd, F⟩ := c.def_ 11 (d := d_pairs_of) rfl
    exact ⟨_, fd, He.glo_ok X G (c.fact 11 (f := .glo "pairs_of") rfl), F, FunD.bindsN F fun _ _ _ _ _ _ us hl => match us, hl with | [_], _ => rfl⟩
  F_sides_in := by
    obtain ⟨fd, F⟩ := c.def_ 12 (d := d_sides_in) rfl
    exact ⟨_, fd, He.glo_ok X G (c.fact 12 (f := .glo "sides_in") rfl), F, FunD.bindsN F fun _ _ _ _ _ _ us hl => match us, hl with | [_], _ => rfl⟩
  F_area_in := by
    obtain ⟨fd, F⟩ := c.def_ 13 (d := d_area_in) rfl
    exact ⟨_, fd, He.glo_ok X G (c.fact 13 (f := .glo "area_in") rfl), F, FunD.bindsN F fun _ _ _ _ _ _ us hl => match us, hl with | [_], _ => rfl⟩
  F_goes_on := by
    obtain ⟨fd, F⟩ := c.def_ 14 (d := d_goes_on) rfl
    exact ⟨_, fd, He.glo_ok X G (c.fact 14 (f := .glo "goes_on") rfl), F, FunD.bindsN F fun _ _ _ _ _ _ us hl => match us, hl with | [_, _], _ => rfl⟩
  F_box_of := by
    obtain ⟨fd, F⟩ := c.def_ 15 (d := d_box_of) rfl
    exact ⟨_, fd, He.glo_ok X G (c.fact 15 (f := .glo "box_of") rfl), F, FunD.bindsN F fun _ _ _ _ _ _ us hl => match us, hl with | [_, _], _ => rfl⟩
  F_are_apart_in := by
    obtain ⟨fd, F⟩ := c.def_ 16 (d := d_are_apart_in) rfl
    exact ⟨_, fd, He.glo_ok X G (c.fact 16 (f := .glo "are_apart_in") rfl), F, FunD.bindsN F fun _ _ _ _ _ _ us hl => match us, hl with | [_], _ => rfl⟩
  F_are_corners := by
    obtain ⟨fd, F⟩ := c.def_ 17 (d := d_are_corners) rfl
    exact ⟨_, fd, He.glo_ok X G (c.fact 17 (f := .glo "are_corners") rfl), F, FunD.bindsN F fun _ _ _ _ _ _ us hl => match us, hl with | [_], _ => rfl⟩
  F_is_straight := by
    obtain ⟨fd, F⟩ := c.def_ 20 (d := d_is_straight) rfl
    exact ⟨_, fd, He.glo_ok X G (c.fact 19 (f := .glo "is_straight") rfl), F, FunD.bindsN F fun _ _ _ _ _ _ us hl => match us, hl with | [_, _], _ => rfl⟩
  F_straight_in := by
    obtain ⟨fd, F⟩ := c.def_ 21 (d := d_straight_in) rfl
    exact ⟨_, fd, He.glo_ok X G (c.fact 20 (f := .glo "straight_in") rfl), F, FunD.bindsN F fun _ _ _ _ _ _ us hl => match us, hl with | [_], _ => rfl⟩
  F_direction_in := by
    obtain ⟨fd, F⟩ := c.def_ 22 (d := d_direction_in) rfl
    exact ⟨_, fd, He.glo_ok X G (c.fact 21 (f := .glo "direction_in") rfl), F, FunD.bindsN F fun _ _ _ _ _ _ us hl => match us, hl with | [_], _ => rfl⟩
  F_is_upper := by
    obtain ⟨fd, F⟩ := c.def_ 23 (d := d_is_upper) rfl
    exact ⟨_, fd, He.glo_ok X G (c.fact 22 (f := .glo "is_upper") rfl), F, FunD.bindsN F fun _ _ _ _ _ _ us hl => match us, hl with | [_], _ => rfl⟩
  F_is_ahead := by
    obtain ⟨fd, F⟩ := c.def_ 24 (d := d_is_ahead) rfl
    exact ⟨_, fd, He.glo_ok X G (c.fact 23 (f := .glo "is_ahead") rfl), F, FunD.bindsN F fun _ _ _ _ _ _ us hl => match us, hl with | [_, _], _ => rfl⟩
  F_numbered := by
    obtain ⟨fd, F⟩ := c.def_ 25 (d := d_numbered) rfl
    exact ⟨_, fd, He.glo_ok X G (c.fact 24 (f := .glo "numbered") rfl), F, FunD.bindsN F fun _ _ _ _ _ _ us hl => match us, hl with | [_], _ => rfl⟩
  F_past_east := by
    obtain ⟨fd, F⟩ := c.def_ 26 (d := d_past_east) rfl
    exact ⟨_, fd, He.glo_ok X G (c.fact 25 (f := .glo "past_east") rfl), F, FunD.bindsN F fun _ _ _ _ _ _ us hl => match us, hl with | [_, _], _ => rfl⟩
  F_lifts_in := by
    obtain ⟨fd, F⟩ := c.def_ 27 (d := d_lifts_in) rfl
    exact ⟨_, fd, He.glo_ok X G (c.fact 26 (f := .glo "lifts_in") rfl), F, FunD.bindsN F fun _ _ _ _ _ _ us hl => match us, hl with | [_], _ => rfl⟩
  F_ranks_in := by
    obtain ⟨fd, F⟩ := c.def_ 28 (d := d_ranks_in) rfl
    exact ⟨_, fd, He.glo_ok X G (c.fact 27 (f := .glo "ranks_in") rfl), F, FunD.bindsN F fun _ _ _ _ _ _ us hl => match us, hl with | [_], _ => rfl⟩
  F_places_in := by
    obtain ⟨fd, F⟩ := c.def_ 29 (d := d_places_in) rfl
    exact ⟨_, fd, He.glo_ok X G (c.fact 28 (f := .glo "places_in") rfl), F, FunD.bindsN F fun _ _ _ _ _ _ us hl => match us, hl with | [_, _], _ => rfl⟩
  F_sorted_in := by
    obtain ⟨fd, F⟩ := c.def_ 30 (d := d_sorted_in) rfl
    exact ⟨_, fd, He.glo_ok X G (c.fact 29 (f := .glo "sorted_in") rfl), F, FunD.bindsN F fun _ _ _ _ _ _ us hl => match us, hl with | [_], _ => rfl⟩
  F_field_in := by
    obtain ⟨fd, F⟩ := c.def_ 31 (d := d_field_in) rfl
    exact ⟨_, fd, He.glo_ok X G (c.fact 30 (f := .glo "field_in") rfl), F, FunD.bindsN F fun _ _ _ _ _ _ us hl => match us, hl with | [_], _ => rfl⟩
  F_least_first := by
    obtain ⟨fd, F⟩ := c.def_ 32 (d := d_least_first) rfl
    exact ⟨_, fd, He.glo_ok X G (c.fact 31 (f := .glo "least_first") rfl), F, FunD.bindsN F fun _ _ _ _ _ _ us hl => match us, hl with | [_], _ => rfl⟩
  F_heights_in := by
    obtain ⟨fd, F⟩ := c.def_ 33 (d := d_heights_in) rfl
    exact ⟨_, fd, He.glo_ok X G (c.fact 32 (f := .glo "heights_in") rfl), F, FunD.bindsN F fun _ _ _ _ _ _ us hl => match us, hl with | [_, _], _ => rfl⟩
  F_end_of := by
    obtain ⟨fd, F⟩ := c.def_ 34 (d := d_end_of) rfl
    exact ⟨_, fd, He.glo_ok X G (c.fact 33 (f := .glo "end_of") rfl), F, FunD.bindsN F fun _ _ _ _ _ _ us hl => match us, hl with | [_], _ => rfl⟩
  F_way_in := by
    obtain ⟨fd, F⟩ := c.def_ 35 (d := d_way_in) rfl
    exact ⟨_, fd, He.glo_ok X G (c.fact 34 (f := .glo "way_in") rfl), F, FunD.bindsN F fun _ _ _ _ _ _ us hl => match us, hl with | [_, _], _ => rfl⟩
  F_width_in := by
    obtain ⟨fd, F⟩ := c.def_ 36 (d := d_width_in) rfl
    exact ⟨_, fd, He.glo_ok X G (c.fact 35 (f := .glo "width_in") rfl), F, FunD.bindsN F fun _ _ _ _ _ _ us hl => match us, hl with | [_, _], _ => rfl⟩
  F__law_orchard := by
    obtain ⟨fd, F⟩ := c.def_ 37 (d := d_law_orchard) rfl
    exact ⟨_, fd, He.glo_ok X G (c.fact 36 (f := .glo "_law_orchard") rfl), F, FunD.bindsN F fun _ _ _ _ _ _ us hl => match us, hl with | [_], _ => rfl⟩
  F__law_prune := by
    obtain ⟨fd, F⟩ := c.def_ 38 (d := d_law_prune) rfl
    exact ⟨_, fd, He.glo_ok X G (c.fact 37 (f := .glo "_law_prune") rfl), F, FunD.bindsN F fun _ _ _ _ _ _ us hl => match us, hl with | [_, _], _ => rfl⟩
  F__law_pick := by
    obtain ⟨fd, F⟩ := c.def_ 39 (d := d_law_pick) rfl
    exact ⟨_, fd, He.glo_ok X G (c.fact 38 (f := .glo "_law_pick") rfl), F, FunD.bindsN F fun _ _ _ _ _ _ us hl => match us, hl with | [_, _], _ => rfl⟩
  F__law_cross := by
    obtain ⟨fd, F⟩ := c.def_ 40 (d := d_law_cross) rfl
    exact ⟨_, fd, He.glo_ok X G (c.fact 39 (f := .glo "_law_cross") rfl), F, FunD.bindsN F fun _ _ _ _ _ _ us hl => match us, hl with | [_, _, _], _ => rfl⟩
  F__law_on := by
    obtain ⟨fd, F⟩ := c.def_ 41 (d := d_law_on) rfl
    exact ⟨_, fd, He.glo_ok X G (c.fact 40 (f := .glo "_law_on") rfl), F, FunD.bindsN F fun _ _ _ _ _ _ us hl => match us, hl with | [_, _, _], _ => rfl⟩
  F__law_meet := by
    obtain ⟨fd, F⟩ := c.def_ 42 (d := d_law_meet) rfl
    exact ⟨_, fd, He.glo_ok X G (c.fact 41 (f := .glo "_law_meet") rfl), F, FunD.bindsN F fun _ _ _ _ _ _ us hl => match us, hl with | [_, _, _, _], _ => rfl⟩
  F__law_clear := by
    obtain ⟨fd, F⟩ := c.def_ 43 (d := d_law_clear) rfl
    exact ⟨_, fd, He.glo_ok X G (c.fact 42 (f := .glo "_law_clear") rfl), F, FunD.bindsN F fun _ _ _ _ _ _ us hl => match us, hl with | [_, _, _, _], _ => rfl⟩
  F__law_are_clear := by
    obtain ⟨fd, F⟩ := c.def_ 44 (d := d_law_are_clear) rfl
    exact ⟨_, fd, He.glo_ok X G (c.fact 43 (f := .glo "_law_are_clear") rfl), F, FunD.bindsN F fun _ _ _ _ _ _ us hl => match us, hl with | [_, _], _ => rfl⟩
  F__law_is_left := by
    obtain ⟨fd, F⟩ := c.def_ 45 (d := d_law_is_left) rfl
    exact ⟨_, fd, He.glo_ok X G (c.fact 44 (f := .glo "_law_is_left") rfl), F, FunD.bindsN F fun _ _ _ _ _ _ us hl => match us, hl with | [_], _ => rfl⟩
  F__law_grown := by
    obtain ⟨fd, F⟩ := c.def_ 46 (d := d_law_grown) rfl
    exact ⟨_, fd, He.glo_ok X G (c.fact 45 (f := .glo "_law_grown") rfl), F, FunD.bindsN F fun _ _ _ _ _ _ us hl => match us, hl with | [_, _], _ => rfl⟩
  F__law_curl := by
    obtain ⟨fd, F⟩ := c.def_ 47 (d := d_law_curl) rfl
    exact ⟨_, fd, He.glo_ok X G (c.fact 46 (f := .glo "_law_curl") rfl), F, FunD.bindsN F fun _ _ _ _ _ _ us hl => match us, hl with | [_], _ => rfl⟩
  F__law_fence := by
    obtain ⟨fd, F⟩ := c.def_ 48 (d := d_law_fence) rfl
    exact ⟨_, fd, He.glo_ok X G (c.fact 47 (f := .glo "_law_fence") rfl), F, FunD.bindsN F fun _ _ _ _ _ _ us hl => match us, hl with | [_], _ => rfl⟩
  F__law_begun := by
    obtain ⟨fd, F⟩ := c.def_ 49 (d := d_law_begun) rfl
    exact ⟨_, fd, He.glo_ok X G (c.fact 48 (f := .glo "_law_begun") rfl), F, FunD.bindsN F fun _ _ _ _ _ _ us hl => match us, hl with | [_], _ => rfl⟩
  F__law_quarter := by
    obtain ⟨fd, F⟩ := c.def_ 50 (d := d_law_quarter) rfl
    exact ⟨_, fd, He.glo_ok X G (c.fact 49 (f := .glo "_law_quarter") rfl), F, FunD.bindsN F fun _ _ _ _ _ _ us hl => match us, hl with | [_], _ => rfl⟩
  F__law_halved := by
    obtain ⟨fd, F⟩ := c.def_ 51 (d := d_law_halved) rfl
    exact ⟨_, fd, He.glo_ok X G (c.fact 50 (f := .glo "_law_halved") rfl), F, FunD.bindsN F fun _ _ _ _ _ _ us hl => match us, hl with | [_, _], _ => rfl⟩
theorem law_run {P : Program} {w : World} {K : PySem.W.Frag} {mg : Str → Option Value} {base : Heap} (A : AllH K mg) {f a : Addr} {ns : List Int} {cdv : Value} {s : Shared} {H : Hp} {E : XK} (hr : Room 11 (callerA.deeper (envOfC "law" (defScope s_law) s.heap.objs.size f cdv))) (hS : SqL K H a (ns.map V.int)) :
    ∃ t, PSs (cxOf CX0 P w K mg base ["_law_script", "_law_orchard_here", "_law_corners", "_law_field", "_law_by", "_law_factor", "_law_at", "_law_pairs", "_law_x", "_law_y", "_law_one", "_law_due", "_law_whole", "_law_quarters"] "law" (defScope s_law) f cdv callerA [] s H E).nox (defBody s_law) t ∧ t { nx := fun _ _ => V.non = V.bl true, rt := fun v _ => v = .bl true } (start ["_law_script", "_law_orchard_here", "_law_corners", "_law_field", "_law_by", "_law_factor", "_law_at", "_law_pairs", "_law_x", "_law_y", "_law_one", "_law_due", "_law_whole", "_law_quarters"] [.ref a]) H := by
  have C_way := c_way (P := P) (w := w) (base := base) A.F_way
  have C_cross := c_cross (P := P) (w := w) (base := base) A.F_cross
  have C_sign_of := c_sign_of (P := P) (w := w) (base := base) A.B A.F_sign_of
  have C_turn_of := c_turn_of (P := P) (w := w) (base := base) C_cross C_way A.F_turn_of
  have C_is_on := c_is_on (P := P) (w := w) (base := base) A.B C_turn_of A.F_is_on
  have C_are_apart := c_are_apart (P := P) (w := w) (base := base) A.B A.F_are_apart
  have C_meet_in := c_meet_in (P := P) (w := w) (base := base) C_are_apart C_is_on C_turn_of C_sign_of A.F_meet_in
  have C_is_integer := c_is_integer (P := P) (w := w) (base := base) A.B A.F_is_integer
  have C_is_point := c_is_point (P := P) (w := w) (base := base) A.B C_is_integer A.F_is_point
  have C_need_point := c_need_point (P := P) (w := w) (base := base) A.B C_is_point A.F_need_point
  have C_pairs_of := c_pairs_of (P := P) (w := w) (base := base) A.B A.F_pairs_of
  have C_sides_in := c_sides_in (P := P) (w := w) (base := base) A.B C_pairs_of C_way A.F_sides_in
  have C_area_in := c_area_in (P := P) (w := w) (base := base) A.B C_pairs_of C_cross A.F_area_in
  have C_goes_on := c_goes_on (P := P) (w := w) (base := base) C_cross A.F_goes_on
  have C_box_of := c_box_of (P := P) (w := w) (base := base) A.B A.F_box_of
  have C_are_apart_in := c_are_apart_in (P := P) (w := w) (base := base) A.B C_pairs_of C_box_of C_meet_in A.F_are_apart_in
  have C_are_corners := c_are_corners (P := P) (w := w) (base := base) A.B A.hL A.hM C_is_point C_pairs_of C_area_in C_sides_in C_goes_on C_are_apart_in A.F_are_corners
  obtain ⟨M_Fence, M_Fence0⟩ := m_Fence (P := P) (w := w) (base := base) A.B A.FC C_are_corners C_sides_in C_area_in
  have C_need_fence := c_need_fence (P := P) (w := w) (base := base) A.B A.FC A.D_need_fence
  have C_is_straight := c_is_straight (P := P) (w := w) (base := base) A.FC C_cross A.F_is_straight
  have C_common := c_common (P := P) (w := w) (base := base) A.B A.F_common
  have C_direction_in := c_direction_in (P := P) (w := w) (base := base) C_common A.F_direction_in
  have C_is_upper := c_is_upper (P := P) (w := w) (base := base) A.F_is_upper
  have C_is_ahead := c_is_ahead (P := P) (w := w) (base := base) C_is_upper C_cross A.F_is_ahead
  have C_past_east := c_past_east (P := P) (w := w) (base := base) A.B C_is_ahead C_cross A.F_past_east
  have C_straight_in := c_straight_in (P := P) (w := w) (base := base) A.B A.FC C_is_straight M_Fence0 A.F_straight_in
  have C_numbered := c_numbered (P := P) (w := w) (base := base) A.B C_is_ahead A.F_numbered
  have C_lifts_in := c_lifts_in (P := P) (w := w) (base := base) A.FC C_direction_in C_past_east A.F_lifts_in
  have C_ranks_in := c_ranks_in (P := P) (w := w) (base := base) A.B C_lifts_in C_numbered A.F_ranks_in
  have C_places_in := c_places_in (P := P) (w := w) (base := base) A.B A.F_places_in
  have C_sorted_in := c_sorted_in (P := P) (w := w) (base := base) A.FC A.B C_ranks_in C_places_in A.F_sorted_in
  have C_least_first := c_least_first (P := P) (w := w) (base := base) A.B A.F_least_first
  have C_field_in := c_field_in (P := P) (w := w) (base := base) A.FC C_sorted_in C_straight_in C_least_first M_Fence0 A.F_field_in
  have C_end_of := c_end_of (P := P) (w := w) (base := base) C_need_fence C_field_in M_Fence0 A.F_end_of
  have C_heights_in := c_heights_in (P := P) (w := w) (base := base) A.F_heights_in
  have C_way_in := c_way_in (P := P) (w := w) (base := base) A.FC A.B C_need_fence C_heights_in C_need_point A.F_way_in
  have C_width_in := c_width_in (P := P) (w := w) (base := base) A.FC A.B C_need_fence C_heights_in C_need_point A.F_width_in
  have C_law_orchard := c_law_orchard (P := P) (w := w) (base := base) A.B A.F__law_orchard
  have C_law_prune := c_law_prune (P := P) (w := w) (base := base) A.B A.F__law_prune
  have C_law_cross := c_law_cross (P := P) (w := w) (base := base) A.F__law_cross
  have C_law_on := c_law_on (P := P) (w := w) (base := base) A.B C_law_cross A.F__law_on
  have C_law_meet := c_law_meet (P := P) (w := w) (base := base) C_law_cross C_law_on A.F__law_meet
  have C_law_clear := c_law_clear (P := P) (w := w) (base := base) C_law_cross C_law_meet A.F__law_clear
  have C_law_pick := c_law_pick (P := P) (w := w) (base := base) A.B C_law_prune A.F__law_pick
  have C_law_are_clear := c_law_are_clear (P := P) (w := w) (base := base) C_law_clear A.F__law_are_clear
  have C_law_is_left := c_law_is_left (P := P) (w := w) (base := base) A.B A.F__law_is_left
  have C_law_grown := c_law_grown (P := P) (w := w) (base := base) A.B C_law_prune C_law_pick C_law_clear C_law_are_clear C_law_is_left A.F__law_grown
  have C_law_curl := c_law_curl (P := P) (w := w) (base := base) A.B A.F__law_curl
  have C_law_fence := c_law_fence (P := P) (w := w) (base := base) A.B C_law_prune C_law_grown C_law_curl A.F__law_fence
  have C_law_begun := c_law_begun (P := P) (w := w) (base := base) A.B A.F__law_begun
  have C_law_quarter := c_law_quarter (P := P) (w := w) (base := base) A.F__law_quarter
  have C_law_halved := c_law_halved (P := P) (w := w) (base := base) A.B C_law_prune A.F__law_halved
  exact law_body A.B A.FC M_Fence C_end_of C_way_in C_width_in C_law_orchard C_law_prune C_law_fence C_law_begun C_law_quarter C_law_halved hr hS
end Bay
set_option maxHeartbeats 0
open PySem PySem.W PySem.Calls PyProof.Rows
theorem PySem.Challenge.cw_baysout_k40_whole_fields_of_changed_fenc_holds : PySem.Challenge.rw_baysout_k40_whole_fields_of_changed_fenc.Holds := by
  w_on; o_law
  refine HandSHeadRun.head_any (r := OpenLaw.row PySem.Challenge.rw_baysout_k40_whole_fields_of_changed_fenc) (q := view (OpenLaw.row PySem.Challenge.rw_baysout_k40_whole_fields_of_changed_fenc).prog [74]) (H := Bay.hk) (ob := Bay.ob) (M := 4000) (loose := Bay.names) (d := HandSHeadRun.topDef (OpenLaw.row PySem.Challenge.rw_baysout_k40_whole_fields_of_changed_fenc).prog 74) (kwd := []) Bay.ob_eq
    (by kernel_rfl) (fun s => by kernel_rfl) Bay.run (by kernel_rfl) (by kernel_rfl) (by kernel_rfl) (by rfl) (by first | assumption | decide +kernel) (by decide +kernel) ⟨rfl, rfl, rfl, rfl, rfl, by decide +kernel⟩ ?hw ?hc
  case hw => w_witness2
  case hc =>
    refine Att.attach_call (n := 63) rfl (by kernel_rfl) fun w s₀ s₁ mg mb fa o pm cd doc a vs ns G Y ho hd hcd hmg0 hobj hints hlen hg => ?_
    obtain ⟨K, KX, c, ci⟩ := Y
    have hmg : mg ("law" : PySem.Str) = some (.ref fa) := by
      have e : (HandSHeadRun.topDef (OpenLaw.row PySem.Challenge.rw_baysout_k40_whole_fields_of_changed_fenc).prog 74).name = ("law" : PySem.Str) := by kernel_rfl
      rw [← e]
      exact hmg0
    obtain ⟨fd, F⟩ := c.def_ 52 (d := Bay.d_law) rfl
    have e := hmg.symm.trans (He.glo_ok KX G.T.g (c.fact 51 (f := .glo "law") rfl))
    cases e
    have A := Bay.allH KX G.T.g c ci
    have hr : L2.Room 12 callerA := ⟨rfl, by decide, by decide⟩
    have b := L2.FunD.bindsA (ps := ["_law_script"]) F fun _ _ _ _ _ _ us hl => match us, hl with | [_], _ => rfl
    refine Bay.lawG KX G.T.g G.T.b G.T.builtins G.T.nolimit hg hobj hints (Nat.le_trans hlen (by decide)) fun base H hK hN hS e0 => ?_
    exact Bay.bodyG F Bay.scLaw hr e0 (b s₁ [_] rfl) (show L2.RelV (L2.V.ref a) (PySem.Value.ref a) from rfl) fun cdv hr2 => Bay.law_run (Bay.allH hK hN c ci) hr2 hS
