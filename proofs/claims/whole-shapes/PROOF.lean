import PyProof.Rows.All
import Wide.All
import OpenK.AllK
import Wide.FinOn
import PySem.Spec
import HandS.ForMost
import HandS.Wide
import HandS.Zip
import HandS.Deep
import HandS.SetKeys
import HandS.TupAny
import HandS.IsInst
import HandS.Conv
import HandS.Style
import HandS.Walk
import KE.GoesEnum
import HandS.SortRule
import HandS.TupLe
import HandS.DictTup
import KE.KSortTup
import HandS.Strs
import HandS.TupLen
import PyProof.StrOps2
import PySem.Challenge.RW_cutstairs_k23_whole_shapes_and_greater_t
set_option Elab.async false
set_option linter.all false
set_option maxRecDepth 100000
set_option maxHeartbeats 5000000
section
set_option autoImplicit false
namespace Cut
/-! fractions: tops and bottoms in lowest terms, told by any common bottom -/
abbrev Fr := Int × Int
def Canon (x : Fr) : Prop := 0 < x.2 ∧ Int.gcd x.1 x.2 = 1
/-- x is n by d -/
structure Fv (x : Fr) (n d : Int) : Prop where
  can : Canon x
  eq : x.1 * d = n * x.2
def red (n d : Int) : Fr := (n / (Int.gcd n d : Int), d / (Int.gcd n d : Int))

theorem mul_cancel {a b c : Int} (h : 0 < c) (e : a * c = b * c) : a = b := Int.eq_of_mul_eq_mul_right (by omega) e

theorem red_fv {n d : Int} (hd : 0 < d) : Fv (red n d) n d := by
  have hg : 0 < Int.gcd n d := Int.gcd_pos_of_ne_zero_right n (by omega)
  have hg' : (0 : Int) < (Int.gcd n d : Int) := by omega
  have e1 : n / (Int.gcd n d : Int) * (Int.gcd n d : Int) = n := Int.ediv_mul_cancel (Int.gcd_dvd_left n d)
  have e2 : d / (Int.gcd n d : Int) * (Int.gcd n d : Int) = d := Int.ediv_mul_cancel (Int.gcd_dvd_right n d)
  refine ⟨⟨?_, ?_⟩, ?_⟩
  · show 0 < d / (Int.gcd n d : Int)
    exact Int.ediv_pos_of_pos_of_dvd hd (by omega) (Int.gcd_dvd_right n d)
  · show Int.gcd (n / (Int.gcd n d : Int)) (d / (Int.gcd n d : Int)) = 1
    exact Int.gcd_ediv_gcd_ediv_gcd hg
  · show n / (Int.gcd n d : Int) * d = n * (d / (Int.gcd n d : Int))
    refine mul_cancel hg' ?_
    grind

theorem fv_self {x : Fr} (h : Canon x) : Fv x x.1 x.2 := ⟨h, rfl⟩

theorem dvd_of {a b m : Int} (h : Int.gcd a b = 1) (e : b ∣ a * m) : b ∣ m := by
  have h2 : Nat.Coprime b.natAbs a.natAbs := by
    show Nat.gcd b.natAbs a.natAbs = 1
    rw [Nat.gcd_comm]
    exact h
  have e2 : b.natAbs ∣ a.natAbs * m.natAbs := by
    rw [← Int.natAbs_mul]
    exact Int.natAbs_dvd_natAbs.mpr e
  exact Int.natAbs_dvd_natAbs.mp (h2.dvd_of_dvd_mul_left e2)

theorem fv_den {x : Fr} {n d : Int} (h : Fv x n d) : x.2 ∣ d :=
  dvd_of h.can.2 ⟨n, by rw [h.eq, Int.mul_comm]⟩

theorem fv_uniq {x y : Fr} {n d : Int} (hd : 0 < d) (h : Fv x n d) (k : Fv y n d) : x = y := by
  have e : x.1 * y.2 = y.1 * x.2 := by
    refine mul_cancel hd ?_
    have h1 := h.eq
    have h2 := k.eq
    grind
  have d1 : x.2 ∣ y.2 := dvd_of h.can.2 ⟨y.1, by rw [e, Int.mul_comm]⟩
  have d2 : y.2 ∣ x.2 := dvd_of k.can.2 ⟨x.1, by rw [← e, Int.mul_comm]⟩
  have e2 : x.2 = y.2 := Int.dvd_antisymm (Int.le_of_lt h.can.1) (Int.le_of_lt k.can.1) d1 d2
  have e1 : x.1 = y.1 := by
    refine mul_cancel h.can.1 ?_
    rw [← e, e2]
  exact Prod.ext e1 e2

theorem fv_cong {x y : Fr} {n m d : Int} (hd : 0 < d) (h : Fv x n d) (k : Fv y m d) : x = y ↔ n = m := by
  constructor
  · intro e
    subst e
    refine mul_cancel h.can.1 ?_
    rw [← h.eq, ← k.eq]
  · intro e
    subst e
    exact fv_uniq hd h k

theorem fv_lt {x y : Fr} {n m d : Int} (hd : 0 < d) (h : Fv x n d) (k : Fv y m d) : x.1 * y.2 < y.1 * x.2 ↔ n < m := by
  have h1 := h.eq
  have h2 := k.eq
  have p1 := h.can.1
  have p2 := k.can.1
  have p3 : 0 < x.2 * y.2 := Int.mul_pos p1 p2
  constructor
  · intro l
    have l2 : x.1 * y.2 * d < y.1 * x.2 * d := Int.mul_lt_mul_of_pos_right l hd
    have l3 : n * (x.2 * y.2) < m * (x.2 * y.2) := by
      have e1 : x.1 * y.2 * d = n * (x.2 * y.2) := by grind
      have e2 : y.1 * x.2 * d = m * (x.2 * y.2) := by grind
      omega
    exact Int.lt_of_mul_lt_mul_right l3 (Int.le_of_lt p3)
  · intro l
    have l2 : n * (x.2 * y.2) < m * (x.2 * y.2) := Int.mul_lt_mul_of_pos_right l p3
    have l3 : x.1 * y.2 * d < y.1 * x.2 * d := by
      have e1 : x.1 * y.2 * d = n * (x.2 * y.2) := by grind
      have e2 : y.1 * x.2 * d = m * (x.2 * y.2) := by grind
      omega
    exact Int.lt_of_mul_lt_mul_right l3 (Int.le_of_lt hd)

theorem fv_scale {x : Fr} {n d : Int} (k : Int) (h : Fv x n d) : Fv x (n * k) (d * k) := ⟨h.can, by
  have := h.eq
  grind⟩
theorem fv_unscale {x : Fr} {n d k : Int} (hk : 0 < k) (h : Fv x (n * k) (d * k)) : Fv x n d := ⟨h.can, by
  have := h.eq
  refine mul_cancel hk ?_
  grind⟩

theorem fv_of {x y : Fr} {n d : Int} (hd : 0 < d) (hn : 0 < y.2) (h : Fv x y.1 y.2) (e : y.1 * d = n * y.2) : Fv x n d := ⟨h.can, by
  have := h.eq
  refine mul_cancel hn ?_
  grind⟩

theorem fv_add {a b : Fr} {n m d : Int} (hd : 0 < d) (ha : Fv a n d) (hb : Fv b m d) : Fv (red (a.1 * b.2 + b.1 * a.2) (a.2 * b.2)) (n + m) d := by
  have p := Int.mul_pos ha.can.1 hb.can.1
  refine fv_of (y := (a.1 * b.2 + b.1 * a.2, a.2 * b.2)) hd p (red_fv p) ?_
  have h1 := ha.eq
  have h2 := hb.eq
  show (a.1 * b.2 + b.1 * a.2) * d = (n + m) * (a.2 * b.2)
  grind
theorem fv_sub {a b : Fr} {n m d : Int} (hd : 0 < d) (ha : Fv a n d) (hb : Fv b m d) : Fv (red (a.1 * b.2 - b.1 * a.2) (a.2 * b.2)) (n - m) d := by
  have p := Int.mul_pos ha.can.1 hb.can.1
  refine fv_of (y := (a.1 * b.2 - b.1 * a.2, a.2 * b.2)) hd p (red_fv p) ?_
  have h1 := ha.eq
  have h2 := hb.eq
  show (a.1 * b.2 - b.1 * a.2) * d = (n - m) * (a.2 * b.2)
  grind
/-- a whole number times a fraction -/
theorem fv_mulI {a b : Fr} {k m d : Int} (hd : 0 < d) (ha : Fv a k 1) (hb : Fv b m d) : Fv (red (a.1 * b.1) (a.2 * b.2)) (k * m) d := by
  have p := Int.mul_pos ha.can.1 hb.can.1
  refine fv_of (y := (a.1 * b.1, a.2 * b.2)) hd p (red_fv p) ?_
  have h1 := ha.eq
  have h2 := hb.eq
  show (a.1 * b.1) * d = (k * m) * (a.2 * b.2)
  grind
theorem fv_int (n : Int) : Fv (n, 1) n 1 := ⟨⟨Int.one_pos, by show Int.gcd n 1 = 1; exact Int.gcd_one_right ..⟩, rfl⟩
theorem fv_intd {n d : Int} : Fv (n, 1) (n * d) d := ⟨(fv_int n).can, by show n * d = n * d * 1; omega⟩
theorem fv_1d {x : Fr} {n d : Int} (h : Fv x n 1) : Fv x (n * d) d := by
  have := fv_scale d h
  rw [Int.one_mul] at this
  exact this
theorem fv_top {x : Fr} {n d : Int} (hd : 0 < d) (h : Fv x n d) : x.1.natAbs ≤ n.natAbs ∧ x.2.natAbs ≤ d.natAbs := by
  obtain ⟨k, hk⟩ := fv_den h
  have p := h.can.1
  have hkp : 0 < k := by
    rcases Int.lt_trichotomy 0 k with q | q | q
    · exact q
    · subst q; omega
    · exfalso
      have := Int.mul_neg_of_pos_of_neg p q
      omega
  have e : x.1 * k = n := by
    refine mul_cancel p ?_
    have := h.eq
    rw [hk] at this
    grind
  constructor
  · rw [← e, Int.natAbs_mul]
    exact Nat.le_mul_of_pos_right _ (by omega)
  · rw [hk, Int.natAbs_mul]
    exact Nat.le_mul_of_pos_right _ (by omega)
theorem fv_nn {x : Fr} {n d : Int} (hd : 0 < d) (h : Fv x n d) : 0 ≤ x.1 ↔ 0 ≤ n := by
  have e := h.eq
  have p := h.can.1
  constructor
  · intro l
    have : 0 ≤ n * x.2 := by rw [← e]; exact Int.mul_nonneg l (by omega)
    exact Int.nonneg_of_mul_nonneg_left this p
  · intro l
    have : 0 ≤ x.1 * d := by rw [e]; exact Int.mul_nonneg l (by omega)
    exact Int.nonneg_of_mul_nonneg_left this hd
/-- the common bottom grows: found * (what of size's bottom is not in it) is their least common multiple -/
theorem lcm_step {b f q : Int} (hb : 0 < b) (hf : 0 < f) (h1 : b ∣ q) (h2 : f ∣ q) (hq : 0 < q) : let g := f * (red b f).1
    0 < g ∧ b ∣ g ∧ f ∣ g ∧ g ∣ q := by
  intro g
  have hg : 0 < Int.gcd b f := Int.gcd_pos_of_ne_zero_right b (by omega)
  have e0 : (red b f).1 = b / (Int.gcd b f : Int) := rfl
  have db := Int.gcd_dvd_left b f
  have df := Int.gcd_dvd_right b f
  have e1 : b / (Int.gcd b f : Int) * (Int.gcd b f : Int) = b := Int.ediv_mul_cancel db
  have e2 : f / (Int.gcd b f : Int) * (Int.gcd b f : Int) = f := Int.ediv_mul_cancel df
  have p1 : 0 < b / (Int.gcd b f : Int) := Int.ediv_pos_of_pos_of_dvd hb (by omega) db
  have c1 : Int.gcd (b / (Int.gcd b f : Int)) (f / (Int.gcd b f : Int)) = 1 := Int.gcd_ediv_gcd_ediv_gcd hg
  refine ⟨Int.mul_pos hf p1, ⟨f / (Int.gcd b f : Int), ?_⟩, ⟨_, rfl⟩, ?_⟩
  · show f * (b / (Int.gcd b f : Int)) = b * (f / (Int.gcd b f : Int))
    grind
  · obtain ⟨u, hu⟩ := h1
    obtain ⟨v, hv⟩ := h2
    -- b u = f v; b' u = f' v; b' | f' v so b' | v
    have e3 : (b / (Int.gcd b f : Int)) * u = (f / (Int.gcd b f : Int)) * v := by
      refine mul_cancel (c := (Int.gcd b f : Int)) (by omega) ?_
      grind
    have d3 : (b / (Int.gcd b f : Int)) ∣ v := by
      have c2 : Int.gcd (f / (Int.gcd b f : Int)) (b / (Int.gcd b f : Int)) = 1 := by rw [Int.gcd_comm]; exact c1
      exact dvd_of c2 ⟨u, e3.symm⟩
    obtain ⟨w, hw⟩ := d3
    exact ⟨w, by show q = f * (b / (Int.gcd b f : Int)) * w; rw [hv, hw, Int.mul_assoc]⟩
end Cut
end
section
set_option autoImplicit false
namespace Cut
/-! sums over lists -/
def sm {α : Type} (g : α → Int) : List α → Int
  | [] => 0
  | a :: l => g a + sm g l
section
variable {α β : Type}
theorem sm_nil (g : α → Int) : sm g [] = 0 := rfl
theorem sm_cons (g : α → Int) (a : α) (l : List α) : sm g (a :: l) = g a + sm g l := rfl
theorem sm_app (g : α → Int) : ∀ l m : List α, sm g (l ++ m) = sm g l + sm g m
  | [], m => by rw [List.nil_append, sm_nil]; omega
  | a :: l, m => by rw [List.cons_append, sm_cons, sm_cons, sm_app g l m]; omega
theorem sm_map (g : β → Int) (f : α → β) : ∀ l : List α, sm g (l.map f) = sm (fun a => g (f a)) l
  | [] => rfl
  | a :: l => by rw [List.map_cons, sm_cons, sm_cons, sm_map g f l]
theorem sm_congr {g h : α → Int} : ∀ {l : List α}, (∀ a ∈ l, g a = h a) → sm g l = sm h l
  | [], _ => rfl
  | a :: l, e => by rw [sm_cons, sm_cons, e a List.mem_cons_self, sm_congr fun b hb => e b (List.mem_cons_of_mem _ hb)]
theorem sm_add (g h : α → Int) : ∀ l : List α, sm (fun a => g a + h a) l = sm g l + sm h l
  | [] => rfl
  | a :: l => by rw [sm_cons, sm_cons, sm_cons, sm_add g h l]; omega
theorem sm_mul (k : Int) (g : α → Int) : ∀ l : List α, sm (fun a => g a * k) l = sm g l * k
  | [] => by rw [sm_nil, sm_nil, Int.zero_mul]
  | a :: l => by rw [sm_cons, sm_cons, sm_mul k g l, Int.add_mul]
theorem sm_le {g h : α → Int} : ∀ {l : List α}, (∀ a ∈ l, g a ≤ h a) → sm g l ≤ sm h l
  | [], _ => Int.le_refl _
  | a :: l, e => by
    rw [sm_cons, sm_cons]
    have h1 := e a List.mem_cons_self
    have h2 := sm_le fun b hb => e b (List.mem_cons_of_mem _ hb)
    omega
theorem sm_nn {g : α → Int} {l : List α} (h : ∀ a ∈ l, 0 ≤ g a) : 0 ≤ sm g l := by
  have := sm_le (g := fun _ => 0) (h := g) (l := l) h
  have z : ∀ m : List α, sm (fun _ => (0 : Int)) m = 0 := fun m => by
    induction m with
    | nil => rfl
    | cons a m ih => rw [sm_cons, ih]; rfl
  rw [z] at this
  exact this
theorem sm_zero {g : α → Int} : ∀ {l : List α}, (∀ a ∈ l, 0 ≤ g a) → (sm g l = 0 ↔ ∀ a ∈ l, g a = 0)
  | [], _ => by simp [sm_nil]
  | a :: l, h => by
    have h1 := h a List.mem_cons_self
    have h2 := sm_nn fun b hb => h b (List.mem_cons_of_mem _ hb)
    have ih := sm_zero (l := l) fun b hb => h b (List.mem_cons_of_mem _ hb)
    rw [sm_cons]
    constructor
    · intro e b hb
      have z1 : g a = 0 := by omega
      have z2 : sm g l = 0 := by omega
      rcases List.mem_cons.mp hb with q | q
      · rw [q]; exact z1
      · exact ih.mp z2 b q
    · intro e
      rw [e a List.mem_cons_self, ih.mpr fun b hb => e b (List.mem_cons_of_mem _ hb)]
      rfl
theorem sm_set (g : α → Int) (x : α) : ∀ (l : List α) (k : Nat) (a : α), l[k]? = some a → sm g (l.set k x) = sm g l - g a + g x
  | [], k, a, h => by simp at h
  | b :: l, 0, a, h => by
    have e : b = a := by simpa using h
    subst e
    rw [List.set_cons_zero, sm_cons, sm_cons]
    omega
  | b :: l, k + 1, a, h => by
    rw [List.set_cons_succ, sm_cons, sm_cons, sm_set g x l k a (by simpa using h)]
    omega
end

/-! a net: arcs with what they hold and what goes in them -/
structure Ar (ν : Type) where
  t : ν
  h : ν
  c : Int
  f : Int
section
variable {ν : Type} [DecidableEq ν]
def Caps (net : List (Ar ν)) : Prop := ∀ a ∈ net, 0 ≤ a.f ∧ a.f ≤ a.c
/-- a stream of worth val from s to d -/
def Pot (net : List (Ar ν)) (s d : ν) (val : Int) : Prop := ∀ χ : ν → Int, sm (fun a => a.f * (χ a.t - χ a.h)) net = val * (χ s - χ d)
/-- what leaves S -/
def cutc (net : List (Ar ν)) (S : ν → Bool) : Int := sm (fun a => if S a.t = true ∧ S a.h = false then a.c else 0) net
def Tight (net : List (Ar ν)) (S : ν → Bool) : Prop := ∀ a ∈ net, (S a.t = true → S a.h = false → a.f = a.c) ∧ (S a.t = false → S a.h = true → a.f = 0)
def gap (S : ν → Bool) (a : Ar ν) : Int := if S a.t = true ∧ S a.h = false then a.c - a.f else if S a.t = false ∧ S a.h = true then a.f else 0
def ind (S : ν → Bool) : ν → Int := fun x => if S x = true then 1 else 0
theorem gap_id (S : ν → Bool) (a : Ar ν) : (if S a.t = true ∧ S a.h = false then a.c else 0) = a.f * (ind S a.t - ind S a.h) + gap S a := by
  unfold gap ind
  cases S a.t <;> cases S a.h <;> simp <;> omega
theorem gap_nn {net : List (Ar ν)} (S : ν → Bool) (hc : Caps net) : ∀ a ∈ net, 0 ≤ gap S a := fun a ha => by
  have := hc a ha
  unfold gap
  split
  · omega
  · split <;> omega
theorem cut_id {net : List (Ar ν)} {s d : ν} {val : Int} (hp : Pot net s d val) {S : ν → Bool} (hs : S s = true) (hd : S d = false) : cutc net S = val + sm (gap S) net := by
  unfold cutc
  rw [sm_congr fun a _ => gap_id S a, sm_add, hp (ind S)]
  unfold ind
  rw [hs, hd]
  simp
theorem gap_zero {S : ν → Bool} {a : Ar ν} : gap S a = 0 ↔ ((S a.t = true → S a.h = false → a.f = a.c) ∧ (S a.t = false → S a.h = true → a.f = 0)) := by
  unfold gap
  cases S a.t <;> cases S a.h <;> simp <;> omega
theorem val_le {net : List (Ar ν)} {s d : ν} {val : Int} (hc : Caps net) (hp : Pot net s d val) {S : ν → Bool} (hs : S s = true) (hd : S d = false) : val ≤ cutc net S := by
  rw [cut_id hp hs hd]
  have := sm_nn (gap_nn S hc)
  omega
theorem tight_iff {net : List (Ar ν)} {s d : ν} {val : Int} (hc : Caps net) (hp : Pot net s d val) {S : ν → Bool} (hs : S s = true) (hd : S d = false) : cutc net S = val ↔ Tight net S := by
  rw [cut_id hp hs hd]
  have h1 : val + sm (gap S) net = val ↔ sm (gap S) net = 0 := by omega
  rw [h1, sm_zero (gap_nn S hc)]
  unfold Tight
  constructor
  · intro h a ha
    exact gap_zero.mp (h a ha)
  · intro h a ha
    exact gap_zero.mpr (h a ha)

/-! steps -/
structure Stp (ν : Type) where
  other : ν
  num : Nat
  along : Bool
  rest : Int
/-- a step from x: the arc's ends -/
def Geo (net : List (Ar ν)) (x : ν) (st : Stp ν) : Prop := ∃ a, net[st.num]? = some a ∧ if st.along = true then a.t = x ∧ a.h = st.other else a.h = x ∧ a.t = st.other
/-- .. by which more can be led: what rests -/
def StepOk (net : List (Ar ν)) (x : ν) (st : Stp ν) : Prop := ∃ a, net[st.num]? = some a ∧ 0 < st.rest ∧ if st.along = true then a.t = x ∧ a.h = st.other ∧ st.rest = a.c - a.f else a.h = x ∧ a.t = st.other ∧ st.rest = a.f
theorem StepOk.geo {net : List (Ar ν)} {x : ν} {st : Stp ν} (h : StepOk net x st) : Geo net x st := by
  obtain ⟨a, e, _, h⟩ := h
  refine ⟨a, e, ?_⟩
  split
  · rename_i q
    rw [if_pos q] at h
    exact ⟨h.1, h.2.1⟩
  · rename_i q
    rw [if_neg q] at h
    exact ⟨h.1, h.2.1⟩
def push (net : List (Ar ν)) (m : Int) (st : Stp ν) : List (Ar ν) :=
  match net[st.num]? with
  | some a => net.set st.num { a with f := if st.along = true then a.f + m else a.f - m }
  | none => net
def pushAll (net : List (Ar ν)) (m : Int) (l : List (Stp ν)) : List (Ar ν) := l.foldl (fun n st => push n m st) net
/-- same arcs, other streams -/
def SameArcs (net net' : List (Ar ν)) : Prop := net.map (fun a => (a.t, a.h, a.c)) = net'.map fun a => (a.t, a.h, a.c)
theorem same_get {net net' : List (Ar ν)} (h : SameArcs net net') {k : Nat} {a : Ar ν} (e : net[k]? = some a) : ∃ a', net'[k]? = some a' ∧ a'.t = a.t ∧ a'.h = a.h ∧ a'.c = a.c := by
  have h2 := congrArg (fun l => l[k]?) h
  simp only [List.getElem?_map, e, Option.map_some] at h2
  cases q : net'[k]? with
  | none => rw [q] at h2; simp at h2
  | some a' =>
    rw [q] at h2
    simp at h2
    exact ⟨a', rfl, h2.1.symm, h2.2.1.symm, h2.2.2.symm⟩
theorem push_same (net : List (Ar ν)) (m : Int) (st : Stp ν) : SameArcs net (push net m st) := by
  unfold push SameArcs
  cases e : net[st.num]? with
  | none => rfl
  | some a =>
    show net.map _ = (net.set st.num _).map _
    rw [List.map_set]
    refine List.ext_getElem? fun i => ?_
    rw [List.getElem?_set]
    split
    · rename_i q
      subst q
      have hl := (List.getElem?_eq_some_iff.mp e).1
      rw [if_pos (by simpa using hl), List.getElem?_map, e]
      rfl
    · rfl
theorem push_pot {net : List (Ar ν)} {m : Int} {st : Stp ν} {x : ν} (g : Geo net x st) (χ : ν → Int) :
    sm (fun a => a.f * (χ a.t - χ a.h)) (push net m st) = sm (fun a => a.f * (χ a.t - χ a.h)) net + m * (χ x - χ st.other) := by
  obtain ⟨a, e, g⟩ := g
  unfold push
  rw [e]
  show sm _ (net.set st.num _) = _
  rw [sm_set _ _ _ _ a e]
  cases hb : st.along with
  | true =>
    rw [hb] at g
    obtain ⟨g1, g2⟩ := g
    rw [← g1, ← g2]
    simp only [if_true]
    grind
  | false =>
    rw [hb] at g
    obtain ⟨g1, g2⟩ := g
    rw [← g1, ← g2]
    simp only [Bool.false_eq_true, if_false]
    grind
theorem Geo.same {net net' : List (Ar ν)} {x : ν} {st : Stp ν} (g : Geo net x st) (h : SameArcs net net') : Geo net' x st := by
  obtain ⟨a, e, g⟩ := g
  obtain ⟨a', e', h1, h2, _⟩ := same_get h e
  refine ⟨a', e', ?_⟩
  rw [h1, h2]
  exact g
/-- a row of steps from x to e -/
def Chain (net : List (Ar ν)) : ν → List (Stp ν) → ν → Prop
  | x, [], e => x = e
  | x, st :: r, e => StepOk net x st ∧ Chain net st.other r e
/-- the same by the arcs' ends alone -/
def ChainG (net : List (Ar ν)) : ν → List (Stp ν) → ν → Prop
  | x, [], e => x = e
  | x, st :: r, e => Geo net x st ∧ ChainG net st.other r e
theorem Chain.g {net : List (Ar ν)} : ∀ {l : List (Stp ν)} {x e : ν}, Chain net x l e → ChainG net x l e
  | [], _, _, h => h
  | _ :: _, _, _, h => ⟨h.1.geo, Chain.g h.2⟩
theorem ChainG.same {net net' : List (Ar ν)} (s : SameArcs net net') : ∀ {l : List (Stp ν)} {x e : ν}, ChainG net x l e → ChainG net' x l e
  | [], _, _, h => h
  | _ :: _, _, _, h => ⟨h.1.same s, ChainG.same s h.2⟩
theorem SameArcs.trans {a b c : List (Ar ν)} (h : SameArcs a b) (k : SameArcs b c) : SameArcs a c := Eq.trans h k
theorem pushAll_same (m : Int) : ∀ (l : List (Stp ν)) (net : List (Ar ν)), SameArcs net (pushAll net m l)
  | [], net => rfl
  | st :: r, net => (push_same net m st).trans (pushAll_same m r (push net m st))
theorem pushAll_pot {m : Int} (χ : ν → Int) : ∀ (l : List (Stp ν)) (net : List (Ar ν)) (x e : ν), ChainG net x l e →
    sm (fun a => a.f * (χ a.t - χ a.h)) (pushAll net m l) = sm (fun a => a.f * (χ a.t - χ a.h)) net + m * (χ x - χ e)
  | [], net, x, e, h => by
    have h : x = e := h
    subst h
    show sm _ net = _
    grind
  | st :: r, net, x, e, h => by
    show sm _ (pushAll (push net m st) m r) = _
    rw [pushAll_pot χ r (push net m st) st.other e (ChainG.same (push_same net m st) h.2), push_pot h.1]
    grind
/-- what stands at the arcs behind the steps -/
theorem push_get_ne {net : List (Ar ν)} {m : Int} {st : Stp ν} {k : Nat} (h : k ≠ st.num) : (push net m st)[k]? = net[k]? := by
  unfold push
  cases e : net[st.num]? with
  | none => rfl
  | some a => exact List.getElem?_set_ne (Ne.symm h)
theorem pushAll_get_ne {m : Int} {k : Nat} : ∀ (l : List (Stp ν)) (net : List (Ar ν)), k ∉ l.map (·.num) → (pushAll net m l)[k]? = net[k]?
  | [], _, _ => rfl
  | st :: r, net, h => by
    show (pushAll (push net m st) m r)[k]? = _
    rw [pushAll_get_ne r _ fun q => h (by rw [List.map_cons]; exact List.mem_cons_of_mem _ q), push_get_ne fun q => h (by rw [List.map_cons, q]; exact List.mem_cons_self)]
theorem push_caps {net : List (Ar ν)} {m : Int} {st : Stp ν} {x : ν} (hc : Caps net) (g : StepOk net x st) (h0 : 0 ≤ m) (hm : m ≤ st.rest) : Caps (push net m st) := by
  obtain ⟨a, e, hr, g⟩ := g
  unfold push
  rw [e]
  show Caps (net.set st.num _)
  have ha := hc a (List.mem_of_getElem? e)
  intro b hb
  rcases List.mem_or_eq_of_mem_set hb with q | q
  · exact hc b q
  · subst q
    cases hb : st.along with
    | true =>
      rw [hb] at g
      obtain ⟨_, _, g3⟩ := g
      show 0 ≤ (if true = true then a.f + m else a.f - m) ∧ (if true = true then a.f + m else a.f - m) ≤ a.c
      rw [if_pos rfl]
      omega
    | false =>
      rw [hb] at g
      obtain ⟨_, _, g3⟩ := g
      show 0 ≤ (if false = true then a.f + m else a.f - m) ∧ (if false = true then a.f + m else a.f - m) ≤ a.c
      rw [if_neg Bool.false_ne_true]
      omega
theorem pushAll_caps {m : Int} (h0 : 0 ≤ m) : ∀ (l : List (Stp ν)) (net : List (Ar ν)), Caps net → (l.map (·.num)).Nodup → (∀ st ∈ l, m ≤ st.rest ∧ ∃ x, StepOk net x st) → Caps (pushAll net m l)
  | [], _, hc, _, _ => hc
  | st :: r, net, hc, nd, hs => by
    rw [List.map_cons, List.nodup_cons] at nd
    obtain ⟨h1, x, h2⟩ := hs st List.mem_cons_self
    refine pushAll_caps h0 r (push net m st) (push_caps hc h2 h0 h1) nd.2 fun u hu => ?_
    obtain ⟨k1, y, a, e, k2⟩ := hs u (List.mem_cons_of_mem _ hu)
    refine ⟨k1, y, a, ?_, k2⟩
    rw [push_get_ne fun q => nd.1 (by rw [← q]; exact List.mem_map.mpr ⟨u, hu, rfl⟩)]
    exact e
theorem Chain.all {net : List (Ar ν)} : ∀ {l : List (Stp ν)} {x e : ν}, Chain net x l e → ∀ st ∈ l, ∃ y, StepOk net y st
  | [], _, _, _, _, h => absurd h (by simp)
  | u :: r, x, e, h, st, hm => by
    rcases List.mem_cons.mp hm with q | q
    · rw [q]; exact ⟨x, h.1⟩
    · exact Chain.all h.2 st q
/-- the whole turn: more is led by a road -/
theorem lead {net : List (Ar ν)} {s d : ν} {val m : Int} {l : List (Stp ν)} (hc : Caps net) (hp : Pot net s d val) (ch : Chain net s l.reverse d) (nd : (l.map (·.num)).Nodup) (h0 : 0 < m) (hm : ∀ st ∈ l, m ≤ st.rest) :
    Caps (pushAll net m l) ∧ Pot (pushAll net m l) s d (val + m) ∧ SameArcs net (pushAll net m l) := by
  have key : ∀ (l' : List (Stp ν)), l'.Perm l → True := fun _ _ => trivial
  refine ⟨pushAll_caps (Int.le_of_lt h0) l net hc nd fun st hst => ⟨hm st hst, Chain.all ch st (List.mem_reverse.mpr hst)⟩, ?_, pushAll_same m l net⟩
  -- the sum by each step alone, in any order
  intro χ
  have each : ∀ (l : List (Stp ν)) (net' : List (Ar ν)), SameArcs net net' → (∀ st ∈ l, ∃ y, Geo net y st) →
      ∀ src : Stp ν → ν, (∀ st ∈ l, Geo net (src st) st) → sm (fun a => a.f * (χ a.t - χ a.h)) (pushAll net' m l) = sm (fun a => a.f * (χ a.t - χ a.h)) net' + m * sm (fun st => χ (src st) - χ st.other) l := by
    intro l
    induction l with
    | nil =>
      intro net' _ _ src _
      show sm _ net' = sm _ net' + m * 0
      omega
    | cons st r ih =>
      intro net' sa _ src hsrc
      show sm _ (pushAll (push net' m st) m r) = _
      rw [ih (push net' m st) (sa.trans (push_same net' m st)) (fun u hu => ⟨src u, hsrc u (List.mem_cons_of_mem _ hu)⟩) src (fun u hu => hsrc u (List.mem_cons_of_mem _ hu)), push_pot ((hsrc st List.mem_cons_self).same sa), sm_cons]
      grind
  let src : Stp ν → ν := fun st => match net[st.num]? with
    | some a => if st.along = true then a.t else a.h
    | none => s
  have hsrc : ∀ st y, Geo net y st → src st = y := fun st y ⟨a, e, g⟩ => by
    show (match net[st.num]? with | some a => if st.along = true then a.t else a.h | none => s) = y
    rw [e]
    show (if st.along = true then a.t else a.h) = y
    split
    · rename_i q
      rw [if_pos q] at g
      exact g.1
    · rename_i q
      rw [if_neg q] at g
      exact g.1
  have gg : ∀ st ∈ l, Geo net (src st) st := fun st hst => by
    obtain ⟨y, hy⟩ := Chain.all ch st (List.mem_reverse.mpr hst)
    rw [hsrc st y hy.geo]
    exact hy.geo
  have tele : ∀ (l : List (Stp ν)) (x e : ν), Chain net x l e → sm (fun st => χ (src st) - χ st.other) l = χ x - χ e := by
    intro l
    induction l with
    | nil =>
      intro x e h
      have h : x = e := h
      subst h
      show (0 : Int) = _
      omega
    | cons st r ih =>
      intro x e h
      rw [sm_cons, ih _ _ h.2, hsrc st x h.1.geo]
      omega
  have rev : ∀ (g : Stp ν → Int) (l : List (Stp ν)), sm g l.reverse = sm g l := fun g l => by
    induction l with
    | nil => rfl
    | cons a l ih =>
      rw [List.reverse_cons, sm_app, ih, sm_cons, sm_cons, sm_nil]
      omega
  rw [each l net rfl (fun st hst => ⟨_, gg st hst⟩) src gg, hp χ, ← rev, tele _ _ _ ch]
  grind
/-- nothing more can be led: the certificate -/
theorem closed_tight {net : List (Ar ν)} (hc : Caps net) {R : ν → Bool} (h : ∀ x st, R x = true → StepOk net x st → R st.other = true) : Tight net R := fun a ha => by
  obtain ⟨k, e⟩ := List.getElem?_of_mem ha
  have c := hc a ha
  constructor
  · intro h1 h2
    rcases Int.lt_or_le a.f a.c with q | q
    · have := h a.t ⟨a.h, k, true, a.c - a.f⟩ h1 ⟨a, e, by show 0 < a.c - a.f; omega, by show (if true = true then _ else _); rw [if_pos rfl]; exact ⟨rfl, rfl, rfl⟩⟩
      have t : R a.h = true := this
      rw [h2] at t
      cases t
    · omega
  · intro h1 h2
    rcases Int.lt_or_le 0 a.f with q | q
    · have := h a.h ⟨a.t, k, false, a.f⟩ h2 ⟨a, e, q, by show (if false = true then _ else _); rw [if_neg Bool.false_ne_true]; exact ⟨rfl, rfl, rfl⟩⟩
      have t : R a.t = true := this
      rw [h1] at t
      cases t
    · omega
/-- the worth has a bound -/
theorem val_bound {net : List (Ar ν)} {s d : ν} {val : Int} (hc : Caps net) (hp : Pot net s d val) (hsd : s ≠ d) : val ≤ cutc net (fun x => decide (x = s)) :=
  val_le hc hp (by simp) (by simp; exact fun e => hsd e.symm)
theorem cutc_same {net net' : List (Ar ν)} (h : SameArcs net net') (S : ν → Bool) : cutc net S = cutc net' S := by
  have e : ∀ net : List (Ar ν), cutc net S = sm (fun p : ν × ν × Int => if S p.1 = true ∧ S p.2.1 = false then p.2.2 else 0) (net.map fun a => (a.t, a.h, a.c)) := fun net => by
    rw [sm_map]
    rfl
  rw [e net, e net', h]
end
end Cut
end
section
set_option autoImplicit false
namespace Cut
/-! the family of least cuts, its shape -/
section
variable {ν : Type} [DecidableEq ν]
abbrev Fam (ν : Type) := (ν → Bool) → Prop
/-- S is closed under the ways -/
def ClosedU (ways : List (ν × ν)) (S : ν → Bool) : Prop := ∀ p ∈ ways, S p.1 = true → S p.2 = true
/-- r: the least closed row that has st -/
structure IsClo (ways : List (ν × ν)) (st r : List ν) : Prop where
  has : ∀ x ∈ st, x ∈ r
  clo : ∀ p ∈ ways, p.1 ∈ r → p.2 ∈ r
  least : ∀ S : ν → Bool, ClosedU ways S → (∀ x ∈ st, S x = true) → ∀ x ∈ r, S x = true
/-- the least cuts of a net, told by what is left -/
structure FamOk (L : Fam ν) (names starts ends : List ν) (ways : List (ν × ν)) : Prop where
  some : ∃ S, L S
  iff : ∀ S, L S ↔ (∀ x ∈ starts, S x = true) ∧ (∀ x ∈ ends, S x = false) ∧ ClosedU ways S
  inS : ∀ x ∈ starts, x ∈ names
  inE : ∀ x ∈ ends, x ∈ names
  inW : ∀ p ∈ ways, p.1 ∈ names ∧ p.2 ∈ names
noncomputable def cdec (p : Prop) : Bool := @decide p (Classical.propDecidable p)
theorem cdec_iff {p : Prop} : cdec p = true ↔ p := by
  unfold cdec
  exact @decide_eq_true_iff p (Classical.propDecidable p)
theorem cdec_no {p : Prop} : cdec p = false ↔ ¬ p := by
  unfold cdec
  exact @decide_eq_false_iff_not p (Classical.propDecidable p)
def Low (L : Fam ν) (x : ν) : Prop := ∀ S, L S → S x = true
def Lead (L : Fam ν) (x : ν) : Prop := ∀ S, L S → S x = false
def Le (L : Fam ν) (x y : ν) : Prop := ∀ S, L S → S x = true → S y = true
theorem Le.refl (L : Fam ν) (x : ν) : Le L x x := fun _ _ h => h
theorem Le.trans {L : Fam ν} {x y z : ν} (a : Le L x y) (b : Le L y z) : Le L x z := fun S h q => b S h (a S h q)
section
variable {L : Fam ν} {names starts ends : List ν} {ways : List (ν × ν)}
theorem low_iff (ok : FamOk L names starts ends ways) {r : List ν} (h : IsClo ways starts r) (x : ν) : x ∈ r ↔ Low L x := by
  constructor
  · intro hx S hS
    obtain ⟨h1, _, h3⟩ := (ok.iff S).mp hS
    exact h.least S h3 h1 x hx
  · intro hx
    have : L (fun y => decide (y ∈ r)) := by
      refine (ok.iff _).mpr ⟨fun y hy => decide_eq_true (h.has y hy), fun y hy => decide_eq_false fun q => ?_, fun p hp q => decide_eq_true (h.clo p hp (of_decide_eq_true q))⟩
      obtain ⟨S, hS⟩ := ok.some
      obtain ⟨h1, h2, h3⟩ := (ok.iff S).mp hS
      have := h.least S h3 h1 y q
      rw [h2 y hy] at this
      cases this
    exact of_decide_eq_true (hx _ this)
theorem lead_iff (ok : FamOk L names starts ends ways) {r : List ν} (h : IsClo (ways.map fun p => (p.2, p.1)) ends r) (x : ν) : x ∈ r ↔ Lead L x := by
  have back : ∀ S, ClosedU ways S → ClosedU (ways.map fun p => (p.2, p.1)) (fun y => !S y) := fun S hS p hp q => by
    obtain ⟨q', hq, e⟩ := List.mem_map.mp hp
    subst e
    have k := hS q' hq
    show (!S q'.1) = true
    have q : (!S q'.2) = true := q
    cases e1 : S q'.1 with
    | false => rfl
    | true =>
      rw [k e1] at q
      cases q
  constructor
  · intro hx S hS
    obtain ⟨_, h2, h3⟩ := (ok.iff S).mp hS
    have := h.least (fun y => !S y) (back S h3) (fun y hy => by rw [h2 y hy]; rfl) x hx
    simpa using this
  · intro hx
    have : L (fun y => decide (y ∉ r)) := by
      refine (ok.iff _).mpr ⟨fun y hy => decide_eq_true fun q => ?_, fun y hy => decide_eq_false fun q => q (h.has y hy), fun p hp q => decide_eq_true fun k => ?_⟩
      · obtain ⟨S, hS⟩ := ok.some
        obtain ⟨h1, h2, h3⟩ := (ok.iff S).mp hS
        have := h.least (fun y => !S y) (back S h3) (fun z hz => by rw [h2 z hz]; rfl) y q
        rw [h1 y hy] at this
        cases this
      · exact of_decide_eq_true q (h.clo (p.2, p.1) (List.mem_map.mpr ⟨p, hp, rfl⟩) k)
    have q := of_decide_eq_false (hx _ this)
    exact Decidable.of_not_not q
theorem le_iff (ok : FamOk L names starts ends ways) {lo le : List ν} (hlo : IsClo ways starts lo) (hle : IsClo (ways.map fun p => (p.2, p.1)) ends le) {x y : ν} (hx : ¬ Lead L x) (hy : ¬ Low L y) {r : List ν} (h : IsClo ways [x] r) : y ∈ r ↔ Le L x y := by
  constructor
  · intro hr S hS q
    obtain ⟨_, _, h3⟩ := (ok.iff S).mp hS
    exact h.least S h3 (fun z hz => by rw [List.mem_singleton.mp hz]; exact q) y hr
  · intro hl
    have : L (fun z => decide (z ∈ lo ∨ z ∈ r)) := by
      refine (ok.iff _).mpr ⟨fun z hz => decide_eq_true (.inl (hlo.has z hz)), fun z hz => decide_eq_false fun q => ?_, fun p hp q => decide_eq_true ?_⟩
      · rcases q with q | q
        · obtain ⟨S, hS⟩ := ok.some
          have h1 := (low_iff ok hlo z).mp q S hS
          have h2 := ((ok.iff S).mp hS).2.1 z hz
          rw [h1] at h2
          cases h2
        · -- x would lead to the end
          have nl : ∀ w ∈ r, w ∉ le := fun w hw => by
            have := h.least (fun w => decide (w ∉ le)) (fun p hp q => decide_eq_true fun k => of_decide_eq_true q (hle.clo (p.2, p.1) (List.mem_map.mpr ⟨p, hp, rfl⟩) k)) (fun w hw => by
              rw [List.mem_singleton.mp hw]
              exact decide_eq_true fun q => hx ((lead_iff ok hle x).mp q)) w hw
            exact of_decide_eq_true this
          exact nl z q (hle.has z hz)
      · rcases of_decide_eq_true q with q | q
        · exact .inl (hlo.clo p hp q)
        · exact .inr (h.clo p hp q)
    have q := hl _ this (decide_eq_true (.inr (h.has x (List.mem_singleton.mpr rfl))))
    rcases of_decide_eq_true q with q | q
    · exact absurd ((low_iff ok hlo y).mp q) hy
    · exact q
end

/-! the shape -/
structure Shp (ν : Type) where
  low : List ν
  blocks : List (List ν)
  arrows : List (Nat × Nat)
noncomputable def lowB (L : Fam ν) (x : ν) : Bool := cdec (Low L x)
noncomputable def btwB (L : Fam ν) (x : ν) : Bool := cdec (¬ Low L x ∧ ¬ Lead L x)
noncomputable def leB (L : Fam ν) (x y : ν) : Bool := cdec (Le L x y)
noncomputable def btwOf (names : List ν) (L : Fam ν) : List ν := names.filter (btwB L)
noncomputable def blockOf (names : List ν) (L : Fam ν) (x : ν) : List ν := (btwOf names L).filter fun o => leB L x o && leB L o x
/-- one after another, each once -/
def addNew {α : Type} [DecidableEq α] (bs : List α) (b : α) : List α := if b ∈ bs then bs else bs ++ [b]
noncomputable def blocksOf (names : List ν) (L : Fam ν) : List (List ν) := (btwOf names L).foldl (fun bs x => addNew bs (blockOf names L x)) []
def pairsN (n : Nat) : List (Nat × Nat) := (List.range n).flatMap fun i => (List.range n).map fun j => (i, j)
noncomputable def arrowOk (L : Fam ν) (blocks : List (List ν)) (p : Nat × Nat) : Bool :=
  decide (p.1 ≠ p.2) && match (blocks[p.1]?).bind List.head?, (blocks[p.2]?).bind List.head? with
    | some x, some y => leB L x y
    | _, _ => false
noncomputable def shapeOf (names : List ν) (L : Fam ν) : Shp ν :=
  let bs := blocksOf names L
  ⟨names.filter (lowB L), bs, (pairsN bs.length).filter (arrowOk L bs)⟩
/-- sets of numbers of blocks, in the order in which they are made -/
def subsN : Nat → List (List Nat)
  | 0 => [[]]
  | n + 1 => subsN n ++ (subsN n).map (· ++ [n])
def closedSet (arrows : List (Nat × Nat)) (some : List Nat) : Bool := arrows.all fun p => decide (p.1 ∈ some → p.2 ∈ some)
def closedSets (s : Shp ν) : List (List Nat) := (subsN s.blocks.length).filter (closedSet s.arrows)
/-- the names of a cut, as they come -/
def rawCut (s : Shp ν) (some : List Nat) : List ν := s.low ++ some.flatMap fun i => (s.blocks[i]?).getD []

theorem subsN_mem {n : Nat} : ∀ {l : List Nat}, l ∈ subsN n ↔ ∃ p : Nat → Bool, l = (List.range n).filter p := by
  induction n with
  | zero =>
    intro l
    constructor
    · intro h
      exact ⟨fun _ => true, by rw [List.mem_singleton.mp (show l ∈ [[]] from h)]; rfl⟩
    · rintro ⟨p, rfl⟩
      exact List.mem_singleton.mpr rfl
  | succ n ih =>
    intro l
    show l ∈ subsN n ++ (subsN n).map (· ++ [n]) ↔ _
    rw [List.mem_append]
    constructor
    · rintro (h | h)
      · obtain ⟨p, rfl⟩ := ih.mp h
        refine ⟨fun i => p i && decide (i < n), ?_⟩
        rw [List.range_succ, List.filter_append]
        have e1 : (List.range n).filter p = (List.range n).filter fun i => p i && decide (i < n) := List.filter_congr fun i hi => by
          rw [decide_eq_true (List.mem_range.mp hi), Bool.and_true]
        rw [← e1]
        simp
      · obtain ⟨m, hm, rfl⟩ := List.mem_map.mp h
        obtain ⟨p, rfl⟩ := ih.mp hm
        refine ⟨fun i => p i || decide (i = n), ?_⟩
        rw [List.range_succ, List.filter_append]
        have e1 : (List.range n).filter p = (List.range n).filter fun i => p i || decide (i = n) := List.filter_congr fun i hi => by
          have := List.mem_range.mp hi
          rw [decide_eq_false (by omega), Bool.or_false]
        rw [← e1]
        simp
    · rintro ⟨p, rfl⟩
      rw [List.range_succ, List.filter_append]
      cases hp : p n with
      | true =>
        right
        refine List.mem_map.mpr ⟨_, ih.mpr ⟨p, rfl⟩, ?_⟩
        simp [hp]
      | false =>
        left
        have : List.filter p [n] = [] := by simp [hp]
        rw [this, List.append_nil]
        exact ih.mpr ⟨p, rfl⟩
theorem subsN_lt {n : Nat} {l : List Nat} (h : l ∈ subsN n) : ∀ i ∈ l, i < n := by
  obtain ⟨p, rfl⟩ := subsN_mem.mp h
  intro i hi
  exact List.mem_range.mp (List.mem_filter.mp hi).1
theorem subsN_eq {n : Nat} {l : List Nat} (h : l ∈ subsN n) : l = (List.range n).filter fun i => decide (i ∈ l) := by
  obtain ⟨p, e⟩ := subsN_mem.mp h
  have : ∀ i ∈ List.range n, p i = decide (i ∈ l) := fun i hi => by
    rw [e]
    cases hp : p i with
    | true => exact (decide_eq_true (List.mem_filter.mpr ⟨hi, hp⟩)).symm
    | false => exact (decide_eq_false fun q => by rw [(List.mem_filter.mp q).2] at hp; cases hp).symm
  rw [← List.filter_congr this]
  exact e
theorem subsN_nodup : ∀ n : Nat, (subsN n).Nodup
  | 0 => by show ([[]] : List (List Nat)).Nodup; simp
  | n + 1 => by
    show (subsN n ++ (subsN n).map (· ++ [n])).Nodup
    have ih := subsN_nodup n
    refine List.nodup_append.mpr ⟨ih, ?_, fun a ha b hb e => ?_⟩
    · refine List.pairwise_map.mpr (ih.imp fun {a b} h e => h ?_)
      exact List.append_cancel_right e
    · subst e
      obtain ⟨m, hm, e⟩ := List.mem_map.mp hb
      have := subsN_lt ha n (by rw [← e]; simp)
      omega

/-! blocks -/
theorem addNew_mem {α : Type} [DecidableEq α] {bs : List α} {b c : α} : c ∈ addNew bs b ↔ c ∈ bs ∨ c = b := by
  unfold addNew
  split
  · rename_i h
    constructor
    · exact .inl
    · rintro (q | rfl)
      · exact q
      · exact h
  · rw [List.mem_append, List.mem_singleton]
theorem addNew_nodup {α : Type} [DecidableEq α] {bs : List α} {b : α} (h : bs.Nodup) : (addNew bs b).Nodup := by
  unfold addNew
  split
  · exact h
  · rename_i q
    refine List.nodup_append.mpr ⟨h, by simp, fun a ha c hc e => ?_⟩
    rw [List.mem_singleton.mp hc] at e
    subst e
    exact q ha
theorem fold_new {α β : Type} [DecidableEq α] (f : β → α) : ∀ (l : List β) (bs : List α) (c : α), c ∈ l.foldl (fun bs x => addNew bs (f x)) bs ↔ c ∈ bs ∨ ∃ x ∈ l, c = f x
  | [], bs, c => by simp
  | y :: l, bs, c => by
    rw [List.foldl_cons, fold_new f l, addNew_mem]
    constructor
    · rintro ((h | h) | ⟨x, hx, e⟩)
      · exact .inl h
      · exact .inr ⟨y, List.mem_cons_self, h⟩
      · exact .inr ⟨x, List.mem_cons_of_mem _ hx, e⟩
    · rintro (h | ⟨x, hx, e⟩)
      · exact .inl (.inl h)
      · rcases List.mem_cons.mp hx with q | q
        · subst q; exact .inl (.inr e)
        · exact .inr ⟨x, q, e⟩
theorem fold_nodup {α β : Type} [DecidableEq α] (f : β → α) : ∀ (l : List β) (bs : List α), bs.Nodup → (l.foldl (fun bs x => addNew bs (f x)) bs).Nodup
  | [], _, h => h
  | y :: l, bs, h => by rw [List.foldl_cons]; exact fold_nodup f l _ (addNew_nodup h)
section
variable {L : Fam ν} {names : List ν}
theorem mem_btw {x : ν} : x ∈ btwOf names L ↔ x ∈ names ∧ ¬ Low L x ∧ ¬ Lead L x := by
  unfold btwOf btwB
  rw [List.mem_filter, cdec_iff]
theorem mem_blockOf {x y : ν} : y ∈ blockOf names L x ↔ y ∈ btwOf names L ∧ Le L x y ∧ Le L y x := by
  unfold blockOf leB
  rw [List.mem_filter, Bool.and_eq_true, cdec_iff, cdec_iff]
theorem self_block {x : ν} (h : x ∈ btwOf names L) : x ∈ blockOf names L x := mem_blockOf.mpr ⟨h, Le.refl L x, Le.refl L x⟩
theorem block_eq {x y : ν} (h : Le L x y) (k : Le L y x) : blockOf names L x = blockOf names L y := by
  unfold blockOf
  refine List.filter_congr fun o _ => ?_
  have e1 : leB L x o = leB L y o := by
    unfold leB
    cases q : cdec (Le L y o) with
    | true => exact cdec_iff.mpr (h.trans (cdec_iff.mp q))
    | false => exact cdec_no.mpr fun z => cdec_no.mp q (k.trans z)
  have e2 : leB L o x = leB L o y := by
    unfold leB
    cases q : cdec (Le L o y) with
    | true => exact cdec_iff.mpr ((cdec_iff.mp q).trans k)
    | false => exact cdec_no.mpr fun z => cdec_no.mp q (z.trans h)
  rw [e1, e2]
theorem mem_blocks {b : List ν} : b ∈ blocksOf names L ↔ ∃ x ∈ btwOf names L, b = blockOf names L x := by
  unfold blocksOf
  rw [fold_new]
  simp
theorem blocks_nodup : (blocksOf names L).Nodup := fold_nodup _ _ _ (by simp)
/-- a block is the block of each that it has -/
theorem block_of_mem {b : List ν} (hb : b ∈ blocksOf names L) {y : ν} (hy : y ∈ b) : y ∈ btwOf names L ∧ b = blockOf names L y := by
  obtain ⟨x, hx, rfl⟩ := mem_blocks.mp hb
  obtain ⟨h1, h2, h3⟩ := mem_blockOf.mp hy
  exact ⟨h1, block_eq h2 h3⟩
theorem block_head {b : List ν} (hb : b ∈ blocksOf names L) : ∃ x r, b = x :: r := by
  obtain ⟨x, hx, rfl⟩ := mem_blocks.mp hb
  have h := self_block hx
  cases e : blockOf names L x with
  | nil => rw [e] at h; simp at h
  | cons y r => exact ⟨y, r, rfl⟩
/-- each one between has its block -/
theorem block_has {x : ν} (h : x ∈ btwOf names L) : ∃ (i : Nat) (b : List ν), (blocksOf names L)[i]? = some b ∧ x ∈ b := by
  have hb : blockOf names L x ∈ blocksOf names L := mem_blocks.mpr ⟨x, h, rfl⟩
  obtain ⟨i, e⟩ := List.getElem?_of_mem hb
  exact ⟨i, _, e, self_block h⟩
theorem nodup_get {α : Type} {l : List α} (h : l.Nodup) {i j : Nat} {a : α} (hi : l[i]? = some a) (hj : l[j]? = some a) : i = j := by
  obtain ⟨h1, e1⟩ := List.getElem?_eq_some_iff.mp hi
  obtain ⟨h2, e2⟩ := List.getElem?_eq_some_iff.mp hj
  exact (List.getElem_inj h).mp (e1.trans e2.symm)
/-- blocks are apart -/
theorem block_apart {i j : Nat} {b c : List ν} (hi : (blocksOf names L)[i]? = some b) (hj : (blocksOf names L)[j]? = some c) {x : ν} (hb : x ∈ b) (hc : x ∈ c) : i = j := by
  have e1 := (block_of_mem (List.mem_of_getElem? hi) hb).2
  have e2 := (block_of_mem (List.mem_of_getElem? hj) hc).2
  rw [e1] at hi
  rw [e2] at hj
  exact nodup_get blocks_nodup hi hj
theorem arrow_iff {i j : Nat} {b c : List ν} (hi : (blocksOf names L)[i]? = some b) (hj : (blocksOf names L)[j]? = some c) {x y : ν} (hx : x ∈ b) (hy : y ∈ c) : (i, j) ∈ (shapeOf names L).arrows ↔ i ≠ j ∧ Le L x y := by
  obtain ⟨x0, r, eb⟩ := block_head (List.mem_of_getElem? hi)
  obtain ⟨y0, r2, ec⟩ := block_head (List.mem_of_getElem? hj)
  have hx0 : x0 ∈ b := by rw [eb]; exact List.mem_cons_self
  have hy0 : y0 ∈ c := by rw [ec]; exact List.mem_cons_self
  have mb := (block_of_mem (List.mem_of_getElem? hi) hx0).2
  have mc := (block_of_mem (List.mem_of_getElem? hj) hy0).2
  have kx : Le L x0 x ∧ Le L x x0 := by
    rw [mb] at hx
    exact (mem_blockOf.mp hx).2
  have ky : Le L y0 y ∧ Le L y y0 := by
    rw [mc] at hy
    exact (mem_blockOf.mp hy).2
  have li := (List.getElem?_eq_some_iff.mp hi).1
  have lj := (List.getElem?_eq_some_iff.mp hj).1
  show (i, j) ∈ (pairsN (blocksOf names L).length).filter (arrowOk L (blocksOf names L)) ↔ _
  rw [List.mem_filter]
  have hin : (i, j) ∈ pairsN (blocksOf names L).length := List.mem_flatMap.mpr ⟨i, List.mem_range.mpr li, List.mem_map.mpr ⟨j, List.mem_range.mpr lj, rfl⟩⟩
  have ok : arrowOk L (blocksOf names L) (i, j) = true ↔ i ≠ j ∧ Le L x0 y0 := by
    unfold arrowOk
    simp only [hi, hj, Option.bind_some, eb, ec, List.head?_cons]
    rw [Bool.and_eq_true, decide_eq_true_iff]
    unfold leB
    rw [cdec_iff]
  rw [ok]
  constructor
  · rintro ⟨_, h1, h2⟩
    exact ⟨h1, (kx.2.trans h2).trans ky.1⟩
  · rintro ⟨h1, h2⟩
    exact ⟨hin, h1, (kx.1.trans h2).trans ky.2⟩
theorem arrow_lt {p : Nat × Nat} (h : p ∈ (shapeOf names L).arrows) : p.1 < (blocksOf names L).length ∧ p.2 < (blocksOf names L).length := by
  have h : p ∈ (pairsN (blocksOf names L).length).filter (arrowOk L (blocksOf names L)) := h
  obtain ⟨i, hi, h⟩ := List.mem_flatMap.mp (List.mem_filter.mp h).1
  obtain ⟨j, hj, e⟩ := List.mem_map.mp h
  subst e
  exact ⟨List.mem_range.mp hi, List.mem_range.mp hj⟩
theorem blk_at {i : Nat} (h : i < (blocksOf names L).length) : ∃ x r, (blocksOf names L)[i]? = some (x :: r) := by
  have e : (blocksOf names L)[i]? = some (blocksOf names L)[i] := List.getElem?_eq_getElem h
  obtain ⟨x, r, q⟩ := block_head (List.mem_of_getElem? e)
  exact ⟨x, r, by rw [e, q]⟩
/-- arrows go on from one to the next -/
theorem arrows_trans {i j k : Nat} (h1 : (i, j) ∈ (shapeOf names L).arrows) (h2 : (j, k) ∈ (shapeOf names L).arrows) : (i, k) ∈ (shapeOf names L).arrows ∨ i = k := by
  obtain ⟨li, lj⟩ := arrow_lt h1
  obtain ⟨_, lk⟩ := arrow_lt h2
  obtain ⟨x, r, ex⟩ := blk_at (names := names) (L := L) li
  obtain ⟨y, r2, ey⟩ := blk_at (names := names) (L := L) lj
  obtain ⟨z, r3, ez⟩ := blk_at (names := names) (L := L) lk
  have a1 := (arrow_iff ex ey List.mem_cons_self List.mem_cons_self).mp h1
  have a2 := (arrow_iff ey ez List.mem_cons_self List.mem_cons_self).mp h2
  by_cases e : i = k
  · exact .inr e
  · exact .inl ((arrow_iff ex ez List.mem_cons_self List.mem_cons_self).mpr ⟨e, a1.2.trans a2.2⟩)
end
end
end Cut
end
section
set_option autoImplicit false
namespace Cut
section
variable {ν : Type} [DecidableEq ν] {L : Fam ν} {names : List ν}
/-- the cut of some blocks, in the order of the names -/
noncomputable def cutOf (names : List ν) (L : Fam ν) (some : List Nat) : List ν := names.filter fun x => decide (x ∈ rawCut (shapeOf names L) some)
theorem mem_raw {some : List Nat} {x : ν} : x ∈ rawCut (shapeOf names L) some ↔ (x ∈ names ∧ Low L x) ∨ ∃ i ∈ some, ∃ b, (blocksOf names L)[i]? = Option.some b ∧ x ∈ b := by
  unfold rawCut
  rw [List.mem_append]
  have e1 : x ∈ (shapeOf names L).low ↔ x ∈ names ∧ Low L x := by
    show x ∈ names.filter (lowB L) ↔ _
    unfold lowB
    rw [List.mem_filter, cdec_iff]
  rw [e1, List.mem_flatMap]
  refine or_congr Iff.rfl ⟨fun ⟨i, hi, h⟩ => ⟨i, hi, ?_⟩, fun ⟨i, hi, b, e, h⟩ => ⟨i, hi, ?_⟩⟩
  · have h : x ∈ ((blocksOf names L)[i]?).getD [] := h
    cases e : (blocksOf names L)[i]? with
    | none => rw [e] at h; simp at h
    | some b =>
      rw [e] at h
      exact ⟨b, rfl, h⟩
  · show x ∈ ((blocksOf names L)[i]?).getD []
    rw [e]
    exact h
theorem btw_names {x : ν} (h : x ∈ btwOf names L) : x ∈ names := (mem_btw.mp h).1
theorem raw_names {some : List Nat} {x : ν} (h : x ∈ rawCut (shapeOf names L) some) : x ∈ names := by
  rcases mem_raw.mp h with h | ⟨i, _, b, e, h⟩
  · exact h.1
  · exact btw_names (block_of_mem (List.mem_of_getElem? e) h).1
theorem mem_cutOf {some : List Nat} {x : ν} : x ∈ cutOf names L some ↔ x ∈ rawCut (shapeOf names L) some := by
  unfold cutOf
  rw [List.mem_filter, decide_eq_true_iff]
  exact ⟨fun h => h.2, fun h => ⟨raw_names h, h⟩⟩
section
variable {starts ends : List ν} {ways : List (ν × ν)}
theorem closed_iff {arrows : List (Nat × Nat)} {some : List Nat} : closedSet arrows some = true ↔ ∀ p ∈ arrows, p.1 ∈ some → p.2 ∈ some := by
  unfold closedSet
  rw [List.all_eq_true]
  exact ⟨fun h p hp => of_decide_eq_true (h p hp), fun h p hp => decide_eq_true (h p hp)⟩
/-- each closed set of blocks gives a least cut -/
theorem cut_least (ok : FamOk L names starts ends ways) {some : List Nat} (h : some ∈ closedSets (shapeOf names L)) : L fun x => decide (x ∈ cutOf names L some) := by
  obtain ⟨hs, hc⟩ := List.mem_filter.mp h
  have hc := closed_iff.mp hc
  refine (ok.iff _).mpr ⟨fun x hx => decide_eq_true ?_, fun x hx => decide_eq_false fun q => ?_, fun p hp q => decide_eq_true ?_⟩
  · exact mem_cutOf.mpr (mem_raw.mpr (.inl ⟨ok.inS x hx, fun S hS => ((ok.iff S).mp hS).1 x hx⟩))
  · have lead : Lead L x := fun S hS => ((ok.iff S).mp hS).2.1 x hx
    rcases mem_raw.mp (mem_cutOf.mp q) with k | ⟨i, _, b, e, k⟩
    · obtain ⟨S, hS⟩ := ok.some
      have := k.2 S hS
      rw [lead S hS] at this
      cases this
    · exact (mem_btw.mp (block_of_mem (List.mem_of_getElem? e) k).1).2.2 lead
  · have way : Le L p.1 p.2 := fun S hS z => ((ok.iff S).mp hS).2.2 p hp z
    refine mem_cutOf.mpr (mem_raw.mpr ?_)
    by_cases hl : Low L p.2
    · exact .inl ⟨(ok.inW p hp).2, hl⟩
    · right
      rcases mem_raw.mp (mem_cutOf.mp (of_decide_eq_true q)) with k | ⟨i, hi, b, e, k⟩
      · exact absurd (fun S hS => way S hS (k.2 S hS)) hl
      · have m1 := mem_btw.mp (block_of_mem (List.mem_of_getElem? e) k).1
        have m2 : p.2 ∈ btwOf names L := mem_btw.mpr ⟨(ok.inW p hp).2, hl, fun ld => m1.2.2 fun S hS => by
          cases z : S p.1 with
          | false => rfl
          | true =>
            have := way S hS z
            rw [ld S hS] at this
            cases this⟩
        obtain ⟨j, c, ej, kc⟩ := block_has m2
        by_cases hij : i = j
        · subst hij
          exact ⟨i, hi, c, ej, kc⟩
        · exact ⟨j, hc (i, j) ((arrow_iff e ej k kc).mpr ⟨hij, way⟩) hi, c, ej, kc⟩
/-- the blocks that a set has -/
noncomputable def blocksIn (names : List ν) (L : Fam ν) (S : ν → Bool) : List Nat := (List.range (blocksOf names L).length).filter fun i => match ((blocksOf names L)[i]?).bind List.head? with
  | some x => S x
  | none => false
theorem mem_blocksIn {S : ν → Bool} (hS : L S) {i : Nat} {b : List ν} (e : (blocksOf names L)[i]? = some b) {x : ν} (hx : x ∈ b) : i ∈ blocksIn names L S ↔ S x = true := by
  obtain ⟨y, r, eb⟩ := block_head (List.mem_of_getElem? e)
  have hl := (List.getElem?_eq_some_iff.mp e).1
  have hy : y ∈ b := by rw [eb]; exact List.mem_cons_self
  have m := (block_of_mem (List.mem_of_getElem? e) hy).2
  have k : Le L y x ∧ Le L x y := by
    rw [m] at hx
    exact (mem_blockOf.mp hx).2
  unfold blocksIn
  rw [List.mem_filter]
  simp only [e, Option.bind_some, eb, List.head?_cons]
  exact ⟨fun h => k.1 S hS h.2, fun h => ⟨List.mem_range.mpr hl, k.2 S hS h⟩⟩
/-- each least cut comes so -/
theorem cut_of_least (ok : FamOk L names starts ends ways) {S : ν → Bool} (hS : L S) : blocksIn names L S ∈ closedSets (shapeOf names L) ∧ cutOf names L (blocksIn names L S) = names.filter S := by
  constructor
  · refine List.mem_filter.mpr ⟨subsN_mem.mpr ⟨_, rfl⟩, closed_iff.mpr fun p hp h => ?_⟩
    obtain ⟨l1, l2⟩ := arrow_lt hp
    obtain ⟨x, r, ex⟩ := blk_at (names := names) (L := L) l1
    obtain ⟨y, r2, ey⟩ := blk_at (names := names) (L := L) l2
    have a := ((arrow_iff ex ey List.mem_cons_self List.mem_cons_self).mp (show (p.1, p.2) ∈ _ from hp)).2
    exact (mem_blocksIn hS ey List.mem_cons_self).mpr (a S hS ((mem_blocksIn hS ex List.mem_cons_self).mp h))
  · unfold cutOf
    refine List.filter_congr fun x hx => ?_
    cases hs : S x with
    | true =>
      refine decide_eq_true (mem_raw.mpr ?_)
      by_cases hl : Low L x
      · exact .inl ⟨hx, hl⟩
      · have m : x ∈ btwOf names L := mem_btw.mpr ⟨hx, hl, fun ld => by rw [ld S hS] at hs; cases hs⟩
        obtain ⟨i, b, e, hb⟩ := block_has m
        exact .inr ⟨i, (mem_blocksIn hS e hb).mpr hs, b, e, hb⟩
    | false =>
      refine decide_eq_false fun q => ?_
      rcases mem_raw.mp q with k | ⟨i, hi, b, e, k⟩
      · rw [k.2 S hS] at hs; cases hs
      · rw [(mem_blocksIn hS e k).mp hi] at hs; cases hs
/-- unlike sets give unlike cuts -/
theorem cutOf_inj {some some' : List Nat} (h : some ∈ subsN (blocksOf names L).length) (h' : some' ∈ subsN (blocksOf names L).length) (e : cutOf names L some = cutOf names L some') : some = some' := by
  have key : ∀ {a : List Nat}, a ∈ subsN (blocksOf names L).length → ∀ {i : Nat} {x : ν} {r : List ν}, (blocksOf names L)[i]? = Option.some (x :: r) → (i ∈ a ↔ x ∈ cutOf names L a) := fun {a} ha {i x r} ex => by
    rw [mem_cutOf, mem_raw]
    constructor
    · intro hi
      exact .inr ⟨i, hi, _, ex, List.mem_cons_self⟩
    · rintro (k | ⟨j, hj, b, eb, k⟩)
      · exact absurd k.2 (mem_btw.mp (block_of_mem (List.mem_of_getElem? ex) List.mem_cons_self).1).2.1
      · rw [block_apart ex eb List.mem_cons_self k]
        exact hj
  rw [subsN_eq h, subsN_eq h']
  refine List.filter_congr fun i hi => ?_
  obtain ⟨x, r, ex⟩ := blk_at (names := names) (L := L) (List.mem_range.mp hi)
  have k1 := key h ex
  have k2 := key h' ex
  rw [e] at k1
  exact decide_eq_decide.mpr (k1.trans k2.symm)
/-- all least cuts, as rows of names, each once -/
noncomputable def cutsList (names : List ν) (L : Fam ν) : List (List ν) := (closedSets (shapeOf names L)).map (cutOf names L)
theorem cutsList_mem (ok : FamOk L names starts ends ways) {c : List ν} : c ∈ cutsList names L ↔ ∃ S, L S ∧ c = names.filter S := by
  unfold cutsList
  rw [List.mem_map]
  constructor
  · rintro ⟨some, h, rfl⟩
    refine ⟨_, cut_least ok h, ?_⟩
    have : ∀ x ∈ names, decide (x ∈ rawCut (shapeOf names L) some) = decide (x ∈ cutOf names L some) := fun x _ => decide_eq_decide.mpr mem_cutOf.symm
    show names.filter _ = _
    exact List.filter_congr this
  · rintro ⟨S, hS, rfl⟩
    obtain ⟨h1, h2⟩ := cut_of_least ok hS
    exact ⟨_, h1, h2⟩
theorem cutsList_nodup : (cutsList names L).Nodup := by
  unfold cutsList
  refine List.pairwise_map.mpr ?_
  have h : (closedSets (shapeOf names L)).Nodup := (subsN_nodup _).filter _
  have all : ∀ a ∈ closedSets (shapeOf names L), a ∈ subsN (blocksOf names L).length := fun a ha => (List.mem_filter.mp ha).1
  generalize closedSets (shapeOf names L) = l at h all
  induction l with
  | nil => exact List.Pairwise.nil
  | cons a l ih =>
    rw [List.nodup_cons] at h
    refine List.Pairwise.cons (fun b hb e => ?_) (ih h.2 fun c hc => all c (List.mem_cons_of_mem _ hc))
    have := cutOf_inj (all a List.mem_cons_self) (all b (List.mem_cons_of_mem _ hb)) e
    exact h.1 (this ▸ hb)
end
/-- low and the blocks are apart -/
theorem every_nodup (hn : names.Nodup) : ((shapeOf names L).low ++ (shapeOf names L).blocks.flatten).Nodup := by
  refine List.nodup_append.mpr ⟨hn.filter _, ?_, fun x hx y hy e => ?_⟩
  · show (blocksOf names L).flatten.Nodup
    refine List.pairwise_flatten.mpr ⟨fun b hb => ?_, ?_⟩
    · obtain ⟨x, hx, rfl⟩ := mem_blocks.mp hb
      exact ((hn.filter _).filter _)
    · have h : (blocksOf names L).Nodup := blocks_nodup
      have all : ∀ b ∈ blocksOf names L, b ∈ blocksOf names L := fun _ h => h
      revert h all
      generalize hl : blocksOf names L = l
      rw [← hl]
      have : ∀ l : List (List ν), l.Nodup → (∀ b ∈ l, b ∈ blocksOf names L) → l.Pairwise fun l₁ l₂ => ∀ x ∈ l₁, ∀ y ∈ l₂, x ≠ y := by
        intro l
        induction l with
        | nil => intro _ _; exact List.Pairwise.nil
        | cons b l ih =>
          intro h all
          rw [List.nodup_cons] at h
          refine List.Pairwise.cons (fun c hc x hx y hy e => ?_) (ih h.2 fun c hc => all c (List.mem_cons_of_mem _ hc))
          subst e
          have e1 := (block_of_mem (all b List.mem_cons_self) hx).2
          have e2 := (block_of_mem (all c (List.mem_cons_of_mem _ hc)) hy).2
          exact h.1 (by rw [e1, ← e2]; exact hc)
      exact fun h all => this _ h all
  · subst e
    have hx : x ∈ names.filter (lowB L) := hx
    have h1 : Low L x := cdec_iff.mp (List.mem_filter.mp hx).2
    obtain ⟨b, hb, k⟩ := List.mem_flatten.mp hy
    exact (mem_btw.mp (block_of_mem hb k).1).2.1 h1
end
end Cut
end
section
set_option autoImplicit false
namespace Cut
open PySem PySem.Spec
/-- a strict total order -/
structure Sto {α : Type} (lt : α → α → Bool) : Prop where
  irr : ∀ a, lt a a = false
  tri : ∀ a b, a ≠ b → lt a b = true ∨ lt b a = true
  tr : ∀ a b c, lt a b = true → lt b c = true → lt a c = true
section
variable {α : Type} {lt : α → α → Bool}
theorem Sto.asym (O : Sto lt) {a b : α} (h : lt a b = true) : lt b a = false := by
  cases e : lt b a with
  | false => rfl
  | true =>
    have := O.tr a b a h e
    rw [O.irr] at this
    cases this
/-- not above one another: the same -/
theorem Sto.eq (O : Sto lt) {a b : α} [DecidableEq α] (h : lt a b = false) (k : lt b a = false) : a = b := by
  by_cases e : a = b
  · exact e
  · rcases O.tri a b e with q | q
    · rw [q] at h; cases h
    · rw [q] at k; cases k
theorem Sto.neg (O : Sto lt) [DecidableEq α] {a b c : α} (h : lt b a = false) (k : lt c b = false) : lt c a = false := by
  cases e : lt c a with
  | false => rfl
  | true =>
    by_cases q : a = b
    · subst q; rw [e] at k; cases k
    · rcases O.tri a b q with z | z
      · have := O.tr c a b e z
        rw [this] at k; cases k
      · rw [z] at h; cases h
def lexL [DecidableEq α] (lt : α → α → Bool) : List α → List α → Bool
  | [], [] => false
  | [], _ :: _ => true
  | _ :: _, [] => false
  | a :: r, b :: t => if a = b then lexL lt r t else lt a b
theorem sto_lex [DecidableEq α] (O : Sto lt) : Sto (lexL lt) where
  irr := fun l => by
    induction l with
    | nil => rfl
    | cons a l ih =>
      show (if a = a then lexL lt l l else lt a a) = false
      rw [if_pos rfl, ih]
  tri := fun l => by
    induction l with
    | nil =>
      intro m h
      cases m with
      | nil => exact absurd rfl h
      | cons b m => exact .inl rfl
    | cons a l ih =>
      intro m h
      cases m with
      | nil => exact .inr rfl
      | cons b m =>
        show (if a = b then lexL lt l m else lt a b) = true ∨ (if b = a then lexL lt m l else lt b a) = true
        by_cases e : a = b
        · subst e
          rw [if_pos rfl, if_pos rfl]
          exact ih m fun q => h (by rw [q])
        · rw [if_neg e, if_neg (Ne.symm e)]
          exact O.tri a b e
  tr := fun l => by
    induction l with
    | nil =>
      intro m k h1 h2
      cases m with
      | nil => cases h1
      | cons b m =>
        cases k with
        | nil => cases h2
        | cons c k => rfl
    | cons a l ih =>
      intro m k h1 h2
      cases m with
      | nil => cases h1
      | cons b m =>
        cases k with
        | nil => cases h2
        | cons c k =>
          have h1 : (if a = b then lexL lt l m else lt a b) = true := h1
          have h2 : (if b = c then lexL lt m k else lt b c) = true := h2
          show (if a = c then lexL lt l k else lt a c) = true
          by_cases e1 : a = b
          · subst e1
            rw [if_pos rfl] at h1
            by_cases e2 : a = c
            · subst e2
              rw [if_pos rfl] at h2 ⊢
              exact ih m k h1 h2
            · rw [if_neg e2] at h2 ⊢
              exact h2
          · rw [if_neg e1] at h1
            by_cases e2 : b = c
            · subst e2
              rw [if_neg e1]
              exact h1
            · rw [if_neg e2] at h2
              have h3 := O.tr a b c h1 h2
              by_cases e3 : a = c
              · subst e3
                rw [O.irr] at h3
                cases h3
              · rw [if_neg e3]
                exact h3
/-- rising, each once -/
abbrev Ris (lt : α → α → Bool) (l : List α) : Prop := l.Pairwise fun a b => lt a b = true
theorem Ris.nodup (O : Sto lt) {l : List α} (h : Ris lt l) : l.Nodup := h.imp fun {a b} q e => by
  subst e
  rw [O.irr] at q
  cases q
theorem ris_of (O : Sto lt) [DecidableEq α] {l : List α} (h : l.Pairwise fun x y => lt y x = false) (nd : l.Nodup) : Ris lt l := by
  refine (List.Pairwise.and h nd).imp fun {a b} q => ?_
  rcases O.tri a b q.2 with z | z
  · exact z
  · rw [z] at q; cases q.1
theorem ris_eq (O : Sto lt) : ∀ {l m : List α}, Ris lt l → Ris lt m → (∀ a, a ∈ l ↔ a ∈ m) → l = m
  | [], [], _, _, _ => rfl
  | [], b :: m, _, _, h => absurd ((h b).mpr List.mem_cons_self) (by simp)
  | a :: l, [], _, _, h => absurd ((h a).mp List.mem_cons_self) (by simp)
  | a :: l, b :: m, hl, hm, h => by
    have hl' := List.pairwise_cons.mp hl
    have hm' := List.pairwise_cons.mp hm
    have e : a = b := by
      rcases List.mem_cons.mp ((h a).mp List.mem_cons_self) with q | q
      · exact q
      · rcases List.mem_cons.mp ((h b).mpr List.mem_cons_self) with z | z
        · exact z.symm
        · have h1 := hm'.1 a q
          have h2 := hl'.1 b z
          rw [O.asym h1] at h2
          cases h2
    subst e
    rw [ris_eq O hl'.2 hm'.2 fun c => ?_]
    constructor
    · intro hc
      rcases List.mem_cons.mp ((h c).mp (List.mem_cons_of_mem _ hc)) with q | q
      · subst q
        have := hl'.1 c hc
        rw [O.irr] at this
        cases this
      · exact q
    · intro hc
      rcases List.mem_cons.mp ((h c).mpr (List.mem_cons_of_mem _ hc)) with q | q
      · subst q
        have := hm'.1 c hc
        rw [O.irr] at this
        cases this
      · exact q
theorem Ris.filter {l : List α} (p : α → Bool) (h : Ris lt l) : Ris lt (l.filter p) := List.Pairwise.filter p h
end
/-! texts -/
def ltN (a b : Nat) : Bool := decide (a < b)
theorem sto_nat : Sto ltN := ⟨fun a => decide_eq_false (Nat.lt_irrefl a), fun a b h => by
  rcases Nat.lt_or_gt_of_ne h with q | q
  · exact .inl (decide_eq_true q)
  · exact .inr (decide_eq_true q), fun a b c h k => decide_eq_true (Nat.lt_trans (of_decide_eq_true h) (of_decide_eq_true k))⟩
theorem ltCps_eq : ∀ a b : List Nat, ltCps a b = lexL ltN a b
  | [], [] => rfl
  | [], _ :: _ => rfl
  | _ :: _, [] => rfl
  | a :: r, b :: t => by
    show (decide (a < b) || (a == b && ltCps r t)) = if a = b then lexL ltN r t else decide (a < b)
    rw [ltCps_eq r t]
    by_cases e : a = b
    · subst e
      simp
    · rw [if_neg e]
      simp [e]
def ltS (a b : Str) : Bool := ltCps a.cps.toList b.cps.toList
theorem str_ext {a b : Str} (h : a.cps.toList = b.cps.toList) : a = b := by
  cases a; cases b
  congr
  exact Array.toList_inj.mp h
theorem sto_str : Sto ltS where
  irr := fun a => by unfold ltS; rw [ltCps_eq]; exact (sto_lex sto_nat).irr _
  tri := fun a b h => by
    unfold ltS
    rw [ltCps_eq, ltCps_eq]
    exact (sto_lex sto_nat).tri _ _ fun e => h (str_ext e)
  tr := fun a b c h k => by
    unfold ltS at h k ⊢
    rw [ltCps_eq] at h k ⊢
    exact (sto_lex sto_nat).tr _ _ _ h k
/-- tuples of texts -/
abbrev ltT : List Str → List Str → Bool := lexL ltS
theorem sto_tup : Sto ltT := sto_lex sto_str
end Cut
end
section
set_option autoImplicit false
namespace Cut
open PySem
structure Place where
  n : Str
  a : Int
  b : Int
  c : Int
  d : Int
structure Tie where
  x : Str
  y : Str
  s : Int
structure Web where
  top : Int
  places : List Place
  ties : List Tie
def Web.names (W : Web) : List Str := W.places.map (·.n)
/-- what the ties hold at p by q, q times -/
def ic (p q : Int) (z : Place) : Int := z.a * q + z.b * p
def oc (p q : Int) (z : Place) : Int := z.c * q - z.d * p
def tc (q : Int) (z : Tie) : Int := z.s * q
def spring : Str := "+"
def drain : Str := "-"
theorem spring_ne : spring ≠ drain := by decide +kernel
structure NamesOk (W : Web) : Prop where
  ris : Ris ltS W.names
  noS : spring ∉ W.names
  noD : drain ∉ W.names
  inX : ∀ t ∈ W.ties, t.x ∈ W.names ∧ t.y ∈ W.names
def Cval (W : Web) (p q : Int) (S : Str → Bool) : Int :=
  sm (fun z => if S z.n = true then oc p q z else ic p q z) W.places + sm (fun z => if S z.x = true ∧ S z.y = false then tc q z else 0) W.ties
def fam (W : Web) (p q : Int) : Fam Str := fun S => ∀ T, Cval W p q S ≤ Cval W p q T
def netOf (W : Web) (p q : Int) (fi ft fo : List Int) : List (Ar Str) :=
  (W.places.zip fi).map (fun z => ⟨spring, z.1.n, ic p q z.1, z.2⟩) ++ ((W.ties.zip ft).map (fun z => ⟨z.1.x, z.1.y, tc q z.1, z.2⟩) ++ (W.places.zip fo).map fun z => ⟨z.1.n, drain, oc p q z.1, z.2⟩)
structure MaxFlow (W : Web) (p q : Int) (fi ft fo : List Int) (val : Int) : Prop where
  li : fi.length = W.places.length
  lt : ft.length = W.ties.length
  lo : fo.length = W.places.length
  caps : Caps (netOf W p q fi ft fo)
  pot : Pot (netOf W p q fi ft fo) spring drain val
  tight : ∃ R : Str → Bool, R spring = true ∧ R drain = false ∧ Tight (netOf W p q fi ft fo) R
/-- with the spring, without the drain -/
def fix (S : Str → Bool) : Str → Bool := fun x => if x = spring then true else if x = drain then false else S x
theorem fix_s (S : Str → Bool) : fix S spring = true := by unfold fix; rw [if_pos rfl]
theorem fix_d (S : Str → Bool) : fix S drain = false := by unfold fix; rw [if_neg spring_ne.symm, if_pos rfl]
theorem fix_n {S : Str → Bool} {x : Str} (h1 : x ≠ spring) (h2 : x ≠ drain) : fix S x = S x := by unfold fix; rw [if_neg h1, if_neg h2]
theorem sm_zip_fst {α β : Type} (g : α → Int) : ∀ (l : List α) (m : List β), m.length = l.length → sm (fun z : α × β => g z.1) (l.zip m) = sm g l
  | [], [], _ => rfl
  | [], _ :: _, h => by simp at h
  | _ :: _, [], h => by simp at h
  | a :: l, b :: m, h => by
    rw [List.zip_cons_cons, sm_cons, sm_cons, sm_zip_fst g l m (by simpa using h)]
theorem sm_zip_snd {α β : Type} (g : β → Int) : ∀ (l : List α) (m : List β), m.length = l.length → sm (fun z : α × β => g z.2) (l.zip m) = sm g m
  | [], [], _ => rfl
  | [], _ :: _, h => by simp at h
  | _ :: _, [], h => by simp at h
  | a :: l, b :: m, h => by
    rw [List.zip_cons_cons, sm_cons, sm_cons, sm_zip_snd g l m (by simpa using h)]
theorem mem_zip_fst {α β : Type} {l : List α} {m : List β} {z : α × β} (h : z ∈ l.zip m) : z.1 ∈ l := (List.of_mem_zip (a := z.1) (b := z.2) h).1
section
variable {W : Web} {p q : Int} {fi ft fo : List Int} {val : Int}
theorem names_ne (ok : NamesOk W) {z : Place} (h : z ∈ W.places) : z.n ≠ spring ∧ z.n ≠ drain := by
  have hm : z.n ∈ W.names := List.mem_map.mpr ⟨z, h, rfl⟩
  exact ⟨fun e => ok.noS (e ▸ hm), fun e => ok.noD (e ▸ hm)⟩
theorem ties_ne (ok : NamesOk W) {t : Tie} (h : t ∈ W.ties) : (t.x ≠ spring ∧ t.x ≠ drain) ∧ (t.y ≠ spring ∧ t.y ≠ drain) := by
  obtain ⟨h1, h2⟩ := ok.inX t h
  exact ⟨⟨fun e => ok.noS (e ▸ h1), fun e => ok.noD (e ▸ h1)⟩, ⟨fun e => ok.noS (e ▸ h2), fun e => ok.noD (e ▸ h2)⟩⟩
/-- a sum over places by a set is one over its names -/
theorem Cval_congr (ok : NamesOk W) {S T : Str → Bool} (h : ∀ x ∈ W.names, S x = T x) : Cval W p q S = Cval W p q T := by
  unfold Cval
  congr 1
  · refine sm_congr fun z hz => ?_
    rw [h z.n (List.mem_map.mpr ⟨z, hz, rfl⟩)]
  · refine sm_congr fun t ht => ?_
    obtain ⟨h1, h2⟩ := ok.inX t ht
    rw [h _ h1, h _ h2]
theorem fam_congr (ok : NamesOk W) {S T : Str → Bool} (h : ∀ x ∈ W.names, S x = T x) : fam W p q S ↔ fam W p q T := by
  unfold fam
  rw [Cval_congr ok h]
theorem Cval_fix (ok : NamesOk W) (S : Str → Bool) : Cval W p q (fix S) = Cval W p q S := Cval_congr ok fun x hx => fix_n (fun e => ok.noS (e ▸ hx)) (fun e => ok.noD (e ▸ hx))
theorem cutc_net (ok : NamesOk W) (li : fi.length = W.places.length) (lt : ft.length = W.ties.length) (lo : fo.length = W.places.length) {S : Str → Bool} (hs : S spring = true) (hd : S drain = false) :
    cutc (netOf W p q fi ft fo) S = Cval W p q S := by
  unfold cutc netOf Cval
  rw [sm_app, sm_app, sm_map, sm_map, sm_map]
  have e1 : sm (fun z : Place × Int => if S spring = true ∧ S z.1.n = false then ic p q z.1 else 0) (W.places.zip fi) = sm (fun z : Place => if S z.n = false then ic p q z else 0) W.places := by
    rw [← sm_zip_fst _ _ fi li]
    refine sm_congr fun z _ => ?_
    rw [hs]
    simp
  have e3 : sm (fun z : Place × Int => if S z.1.n = true ∧ S drain = false then oc p q z.1 else 0) (W.places.zip fo) = sm (fun z : Place => if S z.n = true then oc p q z else 0) W.places := by
    rw [← sm_zip_fst _ _ fo lo]
    refine sm_congr fun z _ => ?_
    rw [hd]
    simp
  have e2 : sm (fun z : Tie × Int => if S z.1.x = true ∧ S z.1.y = false then tc q z.1 else 0) (W.ties.zip ft) = sm (fun z : Tie => if S z.x = true ∧ S z.y = false then tc q z else 0) W.ties := sm_zip_fst (fun z : Tie => if S z.x = true ∧ S z.y = false then tc q z else 0) _ ft lt
  have e4 : sm (fun z : Place => if S z.n = true then oc p q z else ic p q z) W.places = sm (fun z : Place => if S z.n = false then ic p q z else 0) W.places + sm (fun z : Place => if S z.n = true then oc p q z else 0) W.places := by
    rw [← sm_add]
    refine sm_congr fun z _ => ?_
    cases S z.n <;> simp
  have E1 := e1
  have E2 := e2
  have E3 := e3
  rw [e4]
  show sm (fun z : Place × Int => if S spring = true ∧ S z.1.n = false then ic p q z.1 else 0) (W.places.zip fi) + (sm (fun z : Tie × Int => if S z.1.x = true ∧ S z.1.y = false then tc q z.1 else 0) (W.ties.zip ft) + sm (fun z : Place × Int => if S z.1.n = true ∧ S drain = false then oc p q z.1 else 0) (W.places.zip fo)) = _
  rw [E1, E2, E3]
  omega
theorem fam_tight (ok : NamesOk W) (m : MaxFlow W p q fi ft fo val) (S : Str → Bool) : fam W p q S ↔ Tight (netOf W p q fi ft fo) (fix S) := by
  obtain ⟨R, r1, r2, rt⟩ := m.tight
  have cR := (tight_iff m.caps m.pot r1 r2).mpr rt
  rw [cutc_net ok m.li m.lt m.lo r1 r2] at cR
  have low : ∀ T, val ≤ Cval W p q T := fun T => by
    have := val_le m.caps m.pot (fix_s T) (fix_d T)
    rw [cutc_net ok m.li m.lt m.lo (fix_s T) (fix_d T), Cval_fix ok] at this
    exact this
  constructor
  · intro h
    refine (tight_iff m.caps m.pot (fix_s S) (fix_d S)).mp ?_
    rw [cutc_net ok m.li m.lt m.lo (fix_s S) (fix_d S), Cval_fix ok]
    have h1 := h R
    have h2 := low S
    omega
  · intro h T
    have := (tight_iff m.caps m.pot (fix_s S) (fix_d S)).mpr h
    rw [cutc_net ok m.li m.lt m.lo (fix_s S) (fix_d S), Cval_fix ok] at this
    rw [this]
    exact low T
theorem fam_some (ok : NamesOk W) (m : MaxFlow W p q fi ft fo val) : ∃ S, fam W p q S ∧ Cval W p q S = val := by
  obtain ⟨R, r1, r2, rt⟩ := m.tight
  have cR := (tight_iff m.caps m.pot r1 r2).mpr rt
  rw [cutc_net ok m.li m.lt m.lo r1 r2] at cR
  refine ⟨R, fun T => ?_, cR⟩
  have := val_le m.caps m.pot (fix_s T) (fix_d T)
  rw [cutc_net ok m.li m.lt m.lo (fix_s T) (fix_d T), Cval_fix ok] at this
  omega
theorem fam_val (ok : NamesOk W) (m : MaxFlow W p q fi ft fo val) {S : Str → Bool} (h : fam W p q S) : Cval W p q S = val := by
  obtain ⟨R, h1, h2⟩ := fam_some ok m
  have a := h R
  have b := h1 S
  omega
/-! what is left -/
def startsOf (p q : Int) (W : Web) (fi : List Int) : List Str := ((W.places.zip fi).filter fun z => decide (z.2 < ic p q z.1)).map (·.1.n)
def endsOf (p q : Int) (W : Web) (fo : List Int) : List Str := ((W.places.zip fo).filter fun z => decide (z.2 < oc p q z.1)).map (·.1.n)
def way1 (q : Int) (z : Tie × Int) : List (Str × Str) := (if z.2 < tc q z.1 then [(z.1.x, z.1.y)] else []) ++ (if 0 < z.2 then [(z.1.y, z.1.x)] else [])
def waysOf (q : Int) (W : Web) (ft : List Int) : List (Str × Str) := (W.ties.zip ft).flatMap (way1 q)
theorem mem_way1 {z : Tie × Int} {w : Str × Str} : w ∈ way1 q z ↔ (z.2 < tc q z.1 ∧ w = (z.1.x, z.1.y)) ∨ (0 < z.2 ∧ w = (z.1.y, z.1.x)) := by
  unfold way1
  rw [List.mem_append]
  refine or_congr ?_ ?_
  · split
    · rename_i h
      simp [h]
    · rename_i h
      simp [h]
  · split
    · rename_i h
      simp [h]
    · rename_i h
      simp [h]
theorem fam_ok (ok : NamesOk W) (m : MaxFlow W p q fi ft fo val) : FamOk (fam W p q) W.names (startsOf p q W fi) (endsOf p q W fo) (waysOf q W ft) where
  some := let ⟨S, h, _⟩ := fam_some ok m; ⟨S, h⟩
  iff := fun S => by
    rw [fam_tight ok m S]
    have fN : ∀ {z : Place}, z ∈ W.places → fix S z.n = S z.n := fun {z} hz => fix_n (names_ne ok hz).1 (names_ne ok hz).2
    have fT : ∀ {t : Tie}, t ∈ W.ties → fix S t.x = S t.x ∧ fix S t.y = S t.y := fun {t} ht => ⟨fix_n (ties_ne ok ht).1.1 (ties_ne ok ht).1.2, fix_n (ties_ne ok ht).2.1 (ties_ne ok ht).2.2⟩
    constructor
    · intro h
      refine ⟨fun x hx => ?_, fun x hx => ?_, fun w hw => ?_⟩
      · obtain ⟨z, hz, rfl⟩ := List.mem_map.mp hx
        obtain ⟨hz, hl⟩ := List.mem_filter.mp hz
        have t := (h ⟨spring, z.1.n, ic p q z.1, z.2⟩ (List.mem_append_left _ (List.mem_map.mpr ⟨z, hz, rfl⟩))).1 (fix_s S)
        have hl := of_decide_eq_true hl
        cases e : S z.1.n with
        | true => rfl
        | false =>
          have := t (by show fix S z.1.n = false; rw [fN (mem_zip_fst hz), e])
          have this : z.2 = ic p q z.1 := this
          omega
      · obtain ⟨z, hz, rfl⟩ := List.mem_map.mp hx
        obtain ⟨hz, hl⟩ := List.mem_filter.mp hz
        have t := (h ⟨z.1.n, drain, oc p q z.1, z.2⟩ (List.mem_append_right _ (List.mem_append_right _ (List.mem_map.mpr ⟨z, hz, rfl⟩)))).1
        have hl := of_decide_eq_true hl
        cases e : S z.1.n with
        | false => rfl
        | true =>
          have := t (by show fix S z.1.n = true; rw [fN (mem_zip_fst hz), e]) (fix_d S)
          have this : z.2 = oc p q z.1 := this
          omega
      · intro hs
        obtain ⟨z, hz, hw⟩ := List.mem_flatMap.mp hw
        obtain ⟨f1, f2⟩ := fT (mem_zip_fst hz)
        have t := h ⟨z.1.x, z.1.y, tc q z.1, z.2⟩ (List.mem_append_right _ (List.mem_append_left _ (List.mem_map.mpr ⟨z, hz, rfl⟩)))
        rcases mem_way1.mp hw with ⟨hl, rfl⟩ | ⟨hl, rfl⟩
        · show S z.1.y = true
          cases e : S z.1.y with
          | true => rfl
          | false =>
            have hs : S z.1.x = true := hs
            have := t.1 (by show fix S z.1.x = true; rw [f1, hs]) (by show fix S z.1.y = false; rw [f2, e])
            have this : z.2 = tc q z.1 := this
            omega
        · show S z.1.x = true
          cases e : S z.1.x with
          | true => rfl
          | false =>
            have hs : S z.1.y = true := hs
            have := t.2 (by show fix S z.1.x = false; rw [f1, e]) (by show fix S z.1.y = true; rw [f2, hs])
            have this : z.2 = 0 := this
            omega
    · rintro ⟨h1, h2, h3⟩ a ha
      have hc := m.caps a ha
      rcases List.mem_append.mp ha with ha | ha
      · obtain ⟨z, hz, rfl⟩ := List.mem_map.mp ha
        refine ⟨fun _ k => ?_, fun k _ => ?_⟩
        · have k : fix S z.1.n = false := k
          rw [fN (mem_zip_fst hz)] at k
          show z.2 = ic p q z.1
          have hc : 0 ≤ z.2 ∧ z.2 ≤ ic p q z.1 := hc
          rcases Int.lt_or_le z.2 (ic p q z.1) with q1 | q1
          · have := h1 z.1.n (List.mem_map.mpr ⟨z, List.mem_filter.mpr ⟨hz, decide_eq_true q1⟩, rfl⟩)
            rw [k] at this
            cases this
          · omega
        · have k : fix S spring = false := k
          rw [fix_s] at k
          cases k
      · rcases List.mem_append.mp ha with ha | ha
        · obtain ⟨z, hz, rfl⟩ := List.mem_map.mp ha
          obtain ⟨f1, f2⟩ := fT (mem_zip_fst hz)
          have hc : 0 ≤ z.2 ∧ z.2 ≤ tc q z.1 := hc
          refine ⟨fun k1 k2 => ?_, fun k1 k2 => ?_⟩
          · have k1 : fix S z.1.x = true := k1
            have k2 : fix S z.1.y = false := k2
            rw [f1] at k1
            rw [f2] at k2
            show z.2 = tc q z.1
            rcases Int.lt_or_le z.2 (tc q z.1) with q1 | q1
            · have := h3 (z.1.x, z.1.y) (List.mem_flatMap.mpr ⟨z, hz, mem_way1.mpr (.inl ⟨q1, rfl⟩)⟩) k1
              have this : S z.1.y = true := this
              rw [k2] at this
              cases this
            · omega
          · have k1 : fix S z.1.x = false := k1
            have k2 : fix S z.1.y = true := k2
            rw [f1] at k1
            rw [f2] at k2
            show z.2 = 0
            rcases Int.lt_or_le 0 z.2 with q1 | q1
            · have := h3 (z.1.y, z.1.x) (List.mem_flatMap.mpr ⟨z, hz, mem_way1.mpr (.inr ⟨q1, rfl⟩)⟩) k2
              have this : S z.1.x = true := this
              rw [k1] at this
              cases this
            · omega
        · obtain ⟨z, hz, rfl⟩ := List.mem_map.mp ha
          refine ⟨fun k _ => ?_, fun _ k => ?_⟩
          · have k : fix S z.1.n = true := k
            rw [fN (mem_zip_fst hz)] at k
            show z.2 = oc p q z.1
            have hc : 0 ≤ z.2 ∧ z.2 ≤ oc p q z.1 := hc
            rcases Int.lt_or_le z.2 (oc p q z.1) with q1 | q1
            · have := h2 z.1.n (List.mem_map.mpr ⟨z, List.mem_filter.mpr ⟨hz, decide_eq_true q1⟩, rfl⟩)
              rw [k] at this
              cases this
            · omega
          · have k : fix S drain = true := k
            rw [fix_d] at k
            cases k
  inS := fun x hx => by
    obtain ⟨z, hz, rfl⟩ := List.mem_map.mp hx
    exact List.mem_map.mpr ⟨z.1, mem_zip_fst (List.mem_filter.mp hz).1, rfl⟩
  inE := fun x hx => by
    obtain ⟨z, hz, rfl⟩ := List.mem_map.mp hx
    exact List.mem_map.mpr ⟨z.1, mem_zip_fst (List.mem_filter.mp hz).1, rfl⟩
  inW := fun w hw => by
    obtain ⟨z, hz, hw⟩ := List.mem_flatMap.mp hw
    obtain ⟨h1, h2⟩ := ok.inX z.1 (mem_zip_fst hz)
    rcases mem_way1.mp hw with ⟨_, rfl⟩ | ⟨_, rfl⟩
    · exact ⟨h1, h2⟩
    · exact ⟨h2, h1⟩
/-! as much comes as goes -/
theorem sm_pick {α : Type} {n : α → Str} {l : List α} (nd : (l.map n).Nodup) (g : α → Int) : ∀ {k : Nat} {a : α}, l[k]? = some a → sm (fun z => if n z = n a then g z else 0) l = g a := by
  induction l with
  | nil => intro k a h; simp at h
  | cons b l ih =>
    intro k a h
    rw [List.map_cons, List.nodup_cons] at nd
    cases k with
    | zero =>
      have e : b = a := by simpa using h
      subst e
      rw [sm_cons, if_pos rfl]
      have : sm (fun z => if n z = n b then g z else 0) l = sm (fun _ => 0) l := sm_congr fun z hz => if_neg fun e => nd.1 (by rw [← e]; exact List.mem_map.mpr ⟨z, hz, rfl⟩)
      rw [this]
      have z0 : ∀ m : List α, sm (fun _ => (0 : Int)) m = 0 := fun m => by
        induction m with
        | nil => rfl
        | cons a m ih => rw [sm_cons, ih]; rfl
      rw [z0]
      omega
    | succ k =>
      have h : l[k]? = some a := by simpa using h
      rw [sm_cons, ih nd.2 h, if_neg fun e => nd.1 (by rw [e]; exact List.mem_map.mpr ⟨a, List.mem_of_getElem? h, rfl⟩)]
      omega
theorem zip_names (li : fi.length = W.places.length) : (W.places.zip fi).map (fun z => z.1.n) = W.names := by
  have : (W.places.zip fi).map (fun z => z.1) = W.places := List.map_fst_zip (by omega)
  unfold Web.names
  rw [← this, List.map_map, this]
  rfl
theorem flow_kept (ok : NamesOk W) (m : MaxFlow W p q fi ft fo val) {k : Nat} {z : Place} {f g : Int} (hz : W.places[k]? = some z) (hf : fi[k]? = some f) (hg : fo[k]? = some g) :
    f + sm (fun w : Tie × Int => if w.1.y = z.n then w.2 else 0) (W.ties.zip ft) = g + sm (fun w : Tie × Int => if w.1.x = z.n then w.2 else 0) (W.ties.zip ft) := by
  have hzm := List.mem_of_getElem? hz
  have hp := m.pot (fun x => if x = z.n then 1 else 0)
  have n1 := names_ne ok hzm
  unfold netOf at hp
  rw [sm_app, sm_app, sm_map, sm_map, sm_map] at hp
  rw [if_neg (Ne.symm n1.1), if_neg (Ne.symm n1.2)] at hp
  have nd : W.names.Nodup := Ris.nodup sto_str ok.ris
  have i1 : (W.places.zip fi)[k]? = some (z, f) := by rw [List.getElem?_zip_eq_some]; exact ⟨hz, hf⟩
  have i2 : (W.places.zip fo)[k]? = some (z, g) := by rw [List.getElem?_zip_eq_some]; exact ⟨hz, hg⟩
  have e1 := sm_pick (n := fun w : Place × Int => w.1.n) (l := W.places.zip fi) (by rw [zip_names m.li]; exact nd) (fun w => w.2) i1
  have e3 := sm_pick (n := fun w : Place × Int => w.1.n) (l := W.places.zip fo) (by rw [zip_names m.lo]; exact nd) (fun w => w.2) i2
  have q1 : sm (fun w : Place × Int => w.2 * (0 - if w.1.n = z.n then 1 else 0)) (W.places.zip fi) = sm (fun w : Place × Int => (if w.1.n = z.n then w.2 else 0) * (-1)) (W.places.zip fi) := sm_congr fun w _ => by
    split <;> omega
  have q3 : sm (fun w : Place × Int => w.2 * ((if w.1.n = z.n then 1 else 0) - 0)) (W.places.zip fo) = sm (fun w : Place × Int => if w.1.n = z.n then w.2 else 0) (W.places.zip fo) := sm_congr fun w _ => by
    split <;> omega
  have q2 : sm (fun w : Tie × Int => w.2 * ((if w.1.x = z.n then 1 else 0) - if w.1.y = z.n then 1 else 0)) (W.ties.zip ft) = sm (fun w : Tie × Int => (if w.1.x = z.n then w.2 else 0) + (if w.1.y = z.n then w.2 else 0) * (-1)) (W.ties.zip ft) := sm_congr fun w _ => by
    split <;> split <;> omega
  rw [sm_add, sm_mul] at q2
  rw [sm_mul] at q1
  have hp : sm (fun w : Place × Int => w.2 * ((if spring = z.n then 1 else 0) - if w.1.n = z.n then 1 else 0)) (W.places.zip fi) + (sm (fun w : Tie × Int => w.2 * ((if w.1.x = z.n then 1 else 0) - if w.1.y = z.n then 1 else 0)) (W.ties.zip ft) + sm (fun w : Place × Int => w.2 * ((if w.1.n = z.n then 1 else 0) - if drain = z.n then 1 else 0)) (W.places.zip fo)) = val * (0 - 0) := hp
  rw [if_neg (Ne.symm n1.1), if_neg (Ne.symm n1.2), q1, q2, q3] at hp
  have e1 : sm (fun w : Place × Int => if w.1.n = z.n then w.2 else 0) (W.places.zip fi) = f := e1
  have e3 : sm (fun w : Place × Int => if w.1.n = z.n then w.2 else 0) (W.places.zip fo) = g := e3
  rw [e1, e3] at hp
  omega
/-- the worth is what goes in -/
theorem worth_in (ok : NamesOk W) (m : MaxFlow W p q fi ft fo val) : sm (fun x => x) fi = val := by
  have hp := m.pot (fun x => if x = spring then 1 else 0)
  unfold netOf at hp
  rw [sm_app, sm_app, sm_map, sm_map, sm_map, if_pos rfl, if_neg spring_ne.symm] at hp
  have q1 : sm (fun w : Place × Int => w.2 * (1 - if w.1.n = spring then 1 else 0)) (W.places.zip fi) = sm (fun w : Place × Int => w.2) (W.places.zip fi) := sm_congr fun w hw => by
    rw [if_neg (names_ne ok (mem_zip_fst hw)).1]
    omega
  have z0 : ∀ {α : Type} (m : List α), sm (fun _ => (0 : Int)) m = 0 := fun m => by
    induction m with
    | nil => rfl
    | cons a m ih => rw [sm_cons, ih]; rfl
  have q3 : sm (fun w : Place × Int => w.2 * ((if w.1.n = spring then 1 else 0) - 0)) (W.places.zip fo) = sm (fun w : Place × Int => 0) (W.places.zip fo) := sm_congr fun w hw => by
    rw [if_neg (names_ne ok (mem_zip_fst hw)).1]
    omega
  have q2 : sm (fun w : Tie × Int => w.2 * ((if w.1.x = spring then 1 else 0) - if w.1.y = spring then 1 else 0)) (W.ties.zip ft) = sm (fun w : Tie × Int => 0) (W.ties.zip ft) := sm_congr fun w hw => by
    have := ties_ne ok (mem_zip_fst hw)
    rw [if_neg this.1.1, if_neg this.2.1]
    omega
  have hp : sm (fun w : Place × Int => w.2 * ((if spring = spring then 1 else 0) - if w.1.n = spring then 1 else 0)) (W.places.zip fi) + (sm (fun w : Tie × Int => w.2 * ((if w.1.x = spring then 1 else 0) - if w.1.y = spring then 1 else 0)) (W.ties.zip ft) + sm (fun w : Place × Int => w.2 * ((if w.1.n = spring then 1 else 0) - if drain = spring then 1 else 0)) (W.places.zip fo)) = val * (1 - 0) := hp
  rw [if_pos rfl, if_neg spring_ne.symm, q1, q2, q3, z0, z0] at hp
  have e := sm_zip_snd (fun x : Int => x) W.places fi m.li
  rw [← e]
  have e2 : sm (fun w : Place × Int => w.2) (W.places.zip fi) = sm (fun z : Place × Int => (fun x : Int => x) z.2) (W.places.zip fi) := rfl
  omega
end
end Cut
end
section
set_option autoImplicit false
namespace Cut
open PySem
/-- all least cuts as rising tuples, rising, each once -/
structure CutsAt (W : Web) (p q : Int) (ls : List (List Str)) : Prop where
  perm : ls.Perm (cutsList W.names (fam W p q))
  ris : Ris ltT ls
/-- one raised tie -/
def greatP (which : Bool) (v : Str) (z : Place) : Place := if z.n = v then (if which = true then { z with c := z.c + 1 } else { z with a := z.a + 1 }) else z
def greater (W : Web) (which : Bool) (v : Str) : Web := ⟨W.top, W.places.map (greatP which v), W.ties⟩
theorem greatP_n (which : Bool) (v : Str) (z : Place) : (greatP which v z).n = z.n := by
  unfold greatP
  split
  · cases which <;> rfl
  · rfl
theorem greater_names (W : Web) (which : Bool) (v : Str) : (greater W which v).names = W.names := by
  unfold Web.names greater
  rw [List.map_map]
  exact List.map_congr_left fun z _ => greatP_n which v z
theorem greater_ok {W : Web} (ok : NamesOk W) (which : Bool) (v : Str) : NamesOk (greater W which v) :=
  ⟨by rw [greater_names]; exact ok.ris, by rw [greater_names]; exact ok.noS, by rw [greater_names]; exact ok.noD, fun t ht => by rw [greater_names]; exact ok.inX t ht⟩
section
variable {W : Web} {p q : Int}
theorem Cval_greater (ok : NamesOk W) {v : Str} (hv : v ∈ W.names) (which : Bool) (S : Str → Bool) : Cval (greater W which v) p q S = Cval W p q S + if S v = which then q else 0 := by
  obtain ⟨z0, hz0, rfl⟩ := List.mem_map.mp hv
  obtain ⟨k, hk⟩ := List.getElem?_of_mem hz0
  unfold Cval
  show sm _ (W.places.map (greatP which z0.n)) + sm _ W.ties = _
  rw [sm_map]
  have e : sm (fun z => if S (greatP which z0.n z).n = true then oc p q (greatP which z0.n z) else ic p q (greatP which z0.n z)) W.places
      = sm (fun z => (if S z.n = true then oc p q z else ic p q z) + (if z.n = z0.n then (if S z.n = which then q else 0) else 0)) W.places := sm_congr fun z _ => by
    rw [greatP_n]
    unfold greatP
    by_cases h : z.n = z0.n
    · rw [if_pos h, if_pos h]
      cases which with
      | true =>
        rw [if_pos rfl]
        cases S z.n with
        | true =>
          rw [if_pos rfl, if_pos rfl, if_pos rfl]
          show (z.c + 1) * q - z.d * p = z.c * q - z.d * p + q
          rw [Int.add_mul]
          omega
        | false =>
          rw [if_neg Bool.false_ne_true, if_neg Bool.false_ne_true, if_neg Bool.false_ne_true]
          show z.a * q + z.b * p = z.a * q + z.b * p + 0
          omega
      | false =>
        rw [if_neg Bool.false_ne_true]
        cases S z.n with
        | true =>
          rw [if_pos rfl, if_pos rfl, if_neg (by decide)]
          show z.c * q - z.d * p = z.c * q - z.d * p + 0
          omega
        | false =>
          rw [if_neg Bool.false_ne_true, if_neg Bool.false_ne_true, if_pos rfl]
          show (z.a + 1) * q + z.b * p = z.a * q + z.b * p + q
          rw [Int.add_mul]
          omega
    · rw [if_neg h, if_neg h]
      omega
  have nd : W.names.Nodup := Ris.nodup sto_str ok.ris
  rw [e, sm_add, sm_pick (n := fun z : Place => z.n) (l := W.places) nd (fun z => if S z.n = which then q else 0) hk]
  show _ + sm (fun z : Tie => if S z.x = true ∧ S z.y = false then tc q z else 0) W.ties = _
  omega
/-- with a greater tie from the spring to what some least cut has (to the drain from what some lacks) just those least cuts stay, of the same worth -/
theorem greater_fam (ok : NamesOk W) (hq : 0 < q) {v : Str} (hv : v ∈ W.names) {which : Bool} {S0 : Str → Bool} (h0 : fam W p q S0) (hs : S0 v = !which) :
    (∀ S, fam (greater W which v) p q S ↔ fam W p q S ∧ S v = !which) ∧ ∀ S, fam (greater W which v) p q S → Cval (greater W which v) p q S = Cval W p q S0 := by
  have c : ∀ S, Cval (greater W which v) p q S = Cval W p q S + if S v = which then q else 0 := fun S => Cval_greater ok hv which S
  have c0 : Cval (greater W which v) p q S0 = Cval W p q S0 := by
    rw [c, hs, if_neg (by cases which <;> decide)]
    omega
  have one : ∀ S, fam (greater W which v) p q S ↔ fam W p q S ∧ S v = !which := fun S => by
    constructor
    · intro h
      have h1 := h S0
      rw [c0, c] at h1
      have h2 := h0 S
      by_cases e : S v = which
      · rw [if_pos e] at h1
        omega
      · rw [if_neg e] at h1
        refine ⟨fun T => ?_, by cases hS : S v <;> cases which <;> first | rfl | exact absurd hS e⟩
        have h3 := h0 T
        omega
    · rintro ⟨h, e⟩ T
      rw [c S, c T, e, if_neg (by cases which <;> decide)]
      have := h T
      split <;> omega
  refine ⟨one, fun S h => ?_⟩
  obtain ⟨h1, e⟩ := (one S).mp h
  rw [c, e, if_neg (by cases which <;> decide)]
  have a := h1 S0
  have b := h0 S
  omega
section
variable {starts ends starts' ends' : List Str} {ways ways' : List (Str × Str)}
theorem CutsAt.mem {ls : List (List Str)} (h : CutsAt W p q ls) (fo : FamOk (fam W p q) W.names starts ends ways) (c : List Str) : c ∈ ls ↔ ∃ S, fam W p q S ∧ c = W.names.filter S := by
  rw [h.perm.mem_iff]
  exact cutsList_mem fo
theorem CutsAt.len {ls : List (List Str)} (h : CutsAt W p q ls) : ls.length = (closedSets (shapeOf W.names (fam W p q))).length := by
  rw [h.perm.length_eq]
  unfold cutsList
  rw [List.length_map]
theorem CutsAt.uniq {ls ms : List (List Str)} (h : CutsAt W p q ls) (k : CutsAt W p q ms) : ls = ms :=
  ris_eq sto_tup h.ris k.ris fun c => by rw [h.perm.mem_iff, k.perm.mem_iff]
/-- the cuts told of the greater web are those told of the web that have (lack) the place -/
theorem cuts_greater (ok : NamesOk W) (hq : 0 < q) {v : Str} (hv : v ∈ W.names) {which : Bool} {S0 : Str → Bool} (h0 : fam W p q S0) (hs : S0 v = !which)
    (fo : FamOk (fam W p q) W.names starts ends ways) (fo' : FamOk (fam (greater W which v) p q) W.names starts' ends' ways')
    {ls ms : List (List Str)} (h : CutsAt W p q ls) (k : CutsAt (greater W which v) p q ms) : ms = ls.filter fun c => decide (v ∈ c) == !which := by
  refine ris_eq sto_tup k.ris (h.ris.filter _) fun c => ?_
  have fo2 : FamOk (fam (greater W which v) p q) (greater W which v).names starts' ends' ways' := by rw [greater_names]; exact fo'
  rw [k.mem fo2 c, List.mem_filter, h.mem fo c]
  obtain ⟨one, _⟩ := greater_fam ok hq hv h0 hs (which := which)
  rw [greater_names]
  constructor
  · rintro ⟨S, hS, rfl⟩
    obtain ⟨h1, h2⟩ := (one S).mp hS
    refine ⟨⟨S, h1, rfl⟩, ?_⟩
    have : decide (v ∈ W.names.filter S) = S v := by
      cases e : S v with
      | true => exact decide_eq_true (List.mem_filter.mpr ⟨hv, e⟩)
      | false => exact decide_eq_false fun z => by rw [(List.mem_filter.mp z).2] at e; cases e
    rw [this, h2]
    simp
  · rintro ⟨⟨S, hS, rfl⟩, hd⟩
    refine ⟨S, (one S).mpr ⟨hS, ?_⟩, rfl⟩
    have : decide (v ∈ W.names.filter S) = S v := by
      cases e : S v with
      | true => exact decide_eq_true (List.mem_filter.mpr ⟨hv, e⟩)
      | false => exact decide_eq_false fun z => by rw [(List.mem_filter.mp z).2] at e; cases e
    rw [this] at hd
    simpa using hd
end
/-! the blocks are rising -/
theorem head_filter {α : Type} {pr : α → Bool} : ∀ {l₁ : List α} {x : α} {l₂ : List α}, pr x = true → ∃ y r, (l₁ ++ x :: l₂).filter pr = y :: r ∧ (y = x ∨ y ∈ l₁)
  | [], x, l₂, h => ⟨x, l₂.filter pr, by rw [List.nil_append, List.filter_cons, if_pos h], .inl rfl⟩
  | a :: l₁, x, l₂, h => by
    rw [List.cons_append, List.filter_cons]
    by_cases ha : pr a = true
    · rw [if_pos ha]
      exact ⟨a, _, rfl, .inr List.mem_cons_self⟩
    · rw [if_neg ha]
      obtain ⟨y, r, e, k⟩ := head_filter (l₁ := l₁) (x := x) (l₂ := l₂) h
      exact ⟨y, r, e, k.imp id fun z => List.mem_cons_of_mem _ z⟩
theorem blocks_ris {names : List Str} (hn : Ris ltS names) (L : Fam Str) : Ris ltT (blocksOf names L) := by
  have hb : Ris ltS (btwOf names L) := hn.filter _
  -- by prefixes
  have key : ∀ (l₂ l₁ : List Str) (bs : List (List Str)), btwOf names L = l₁ ++ l₂ → Ris ltT bs → (∀ b, b ∈ bs ↔ ∃ x ∈ l₁, b = blockOf names L x) → (∀ b ∈ bs, ∃ y r, b = y :: r ∧ y ∈ l₁) →
      Ris ltT (l₂.foldl (fun bs x => addNew bs (blockOf names L x)) bs) := by
    intro l₂
    induction l₂ with
    | nil => intro _ bs _ h _ _; exact h
    | cons x l₂ ih =>
      intro l₁ bs e h hm hh
      have xb : x ∈ btwOf names L := by rw [e]; simp
      rw [List.foldl_cons]
      refine ih (l₁ ++ [x]) _ (by rw [e]; simp) ?_ (fun b => ?_) (fun b hb' => ?_)
      · unfold addNew
        split
        · exact h
        · rename_i nin
          refine List.pairwise_append.mpr ⟨h, List.pairwise_singleton _ _, fun c hc d hd => ?_⟩
          rw [List.mem_singleton.mp hd]
          obtain ⟨y, r, ey, hy⟩ := hh c hc
          -- the new block's head is x
          obtain ⟨z, r2, ez, hz⟩ := head_filter (pr := fun o => leB L x o && leB L o x) (l₁ := l₁) (x := x) (l₂ := l₂) (by unfold leB; rw [Bool.and_eq_true]; exact ⟨cdec_iff.mpr (Le.refl L x), cdec_iff.mpr (Le.refl L x)⟩)
          have ez : blockOf names L x = z :: r2 := by
            unfold blockOf
            rw [e]
            exact ez
          have zx : z = x := by
            rcases hz with q | q
            · exact q
            · exfalso
              have zm : z ∈ blockOf names L x := by rw [ez]; exact List.mem_cons_self
              obtain ⟨_, k1, k2⟩ := mem_blockOf.mp zm
              exact nin ((hm _).mpr ⟨z, q, block_eq k1 k2⟩)
          rw [ey, ez, zx]
          have lt : ltS y x = true := by
            rw [e] at hb
            exact (List.pairwise_append.mp hb).2.2 y hy x List.mem_cons_self
          show (if y = x then lexL ltS r r2 else ltS y x) = true
          rw [if_neg fun q => by rw [q, sto_str.irr] at lt; cases lt]
          exact lt
      · rw [addNew_mem, hm]
        constructor
        · rintro (⟨y, hy, e'⟩ | e')
          · exact ⟨y, List.mem_append_left _ hy, e'⟩
          · exact ⟨x, by simp, e'⟩
        · rintro ⟨y, hy, e'⟩
          rcases List.mem_append.mp hy with q | q
          · exact .inl ⟨y, q, e'⟩
          · rw [List.mem_singleton.mp q] at e'
            exact .inr e'
      · rcases addNew_mem.mp hb' with q | q
        · obtain ⟨y, r, e1, e2⟩ := hh b q
          exact ⟨y, r, e1, List.mem_append_left _ e2⟩
        · subst q
          obtain ⟨z, r2, ez, hz⟩ := head_filter (pr := fun o => leB L x o && leB L o x) (l₁ := l₁) (x := x) (l₂ := l₂) (by unfold leB; rw [Bool.and_eq_true]; exact ⟨cdec_iff.mpr (Le.refl L x), cdec_iff.mpr (Le.refl L x)⟩)
          refine ⟨z, r2, ?_, ?_⟩
          · unfold blockOf
            rw [e]
            exact ez
          · rcases hz with q | q
            · rw [q]; simp
            · exact List.mem_append_left _ q
  exact key (btwOf names L) [] [] rfl List.Pairwise.nil (fun b => by simp) (fun b h => absurd h (by simp))
theorem blocks_nonil {names : List Str} {L : Fam Str} : [] ∉ blocksOf names L := fun h => by
  obtain ⟨x, r, e⟩ := block_head h
  cases e
/-! sets by the bits of a number -/
def maskSet (n m : Nat) : List Nat := (List.range n).filter fun k => decide (m / 2 ^ k % 2 = 1)
theorem mask_low {n m k : Nat} (hk : k < n) : (m + 2 ^ n) / 2 ^ k % 2 = m / 2 ^ k % 2 := by
  have e : 2 ^ n = 2 ^ k * (2 * 2 ^ (n - k - 1)) := by
    rw [← Nat.mul_assoc, Nat.mul_comm (2 ^ k) 2, Nat.mul_assoc, ← Nat.pow_add, ← Nat.pow_succ']
    congr 1
    omega
  rw [e, Nat.add_mul_div_left _ _ (Nat.two_pow_pos k)]
  omega
theorem masks : ∀ n : Nat, (List.range (2 ^ n)).map (maskSet n) = subsN n
  | 0 => rfl
  | n + 1 => by
    have e : 2 ^ (n + 1) = 2 ^ n + 2 ^ n := by rw [Nat.pow_succ]; omega
    rw [e, List.range_add, List.map_append, List.map_map]
    show _ = subsN n ++ (subsN n).map (· ++ [n])
    rw [← masks n]
    congr 1
    · refine List.map_congr_left fun m hm => ?_
      have hm := List.mem_range.mp hm
      unfold maskSet
      rw [List.range_succ, List.filter_append]
      have : List.filter (fun k => decide (m / 2 ^ k % 2 = 1)) [n] = [] := by
        rw [List.filter_cons, Nat.div_eq_of_lt hm]
        rfl
      rw [this, List.append_nil]
    · rw [List.map_map]
      refine List.map_congr_left fun m hm => ?_
      have hm := List.mem_range.mp hm
      show maskSet (n + 1) (2 ^ n + m) = maskSet n m ++ [n]
      unfold maskSet
      rw [List.range_succ, List.filter_append, Nat.add_comm (2 ^ n) m]
      congr 1
      · exact List.filter_congr fun k hk => by rw [mask_low (List.mem_range.mp hk)]
      · have : (m + 2 ^ n) / 2 ^ n % 2 = 1 := by
          rw [Nat.add_div_right _ (Nat.two_pow_pos n), Nat.div_eq_of_lt hm]
        rw [List.filter_cons, this]
        rfl
/-! a row put in order -/
theorem norm_eq {names raw ys : List Str} (hn : Ris ltS names) (hp : ys.Perm raw) (hs : ys.Pairwise fun x y => ltS y x = false) (nd : raw.Nodup) (hsub : ∀ x ∈ raw, x ∈ names) : ys = names.filter fun x => decide (x ∈ raw) := by
  refine ris_eq sto_str (ris_of sto_str hs (hp.nodup_iff.mpr nd)) (hn.filter _) fun a => ?_
  rw [hp.mem_iff, List.mem_filter, decide_eq_true_iff]
  exact ⟨fun h => ⟨hsub a h, h⟩, fun h => h.2⟩
theorem raw_nodup {names : List Str} (hn : names.Nodup) {L : Fam Str} {some : List Nat} (h : some ∈ subsN (blocksOf names L).length) : (rawCut (shapeOf names L) some).Nodup := by
  have all := every_nodup (L := L) hn
  rw [List.nodup_append] at all
  obtain ⟨h1, h2, h3⟩ := all
  unfold rawCut
  have sub : ∀ x ∈ some.flatMap (fun i => ((shapeOf names L).blocks[i]?).getD []), x ∈ (shapeOf names L).blocks.flatten := fun x hx => by
    obtain ⟨i, _, hx⟩ := List.mem_flatMap.mp hx
    have hx : x ∈ ((blocksOf names L)[i]?).getD [] := hx
    cases e : (blocksOf names L)[i]? with
    | none => rw [e] at hx; simp at hx
    | some b =>
      rw [e] at hx
      exact List.mem_flatten.mpr ⟨b, List.mem_of_getElem? e, hx⟩
  refine List.nodup_append.mpr ⟨h1, ?_, fun x hx y hy => h3 x hx y (sub y hy)⟩
  have nds : some.Nodup := by
    rw [subsN_eq h]
    exact List.nodup_range.filter _
  have lts := subsN_lt h
  unfold List.flatMap
  refine List.pairwise_flatten.mpr ⟨fun b hb => ?_, ?_⟩
  · obtain ⟨i, hi, rfl⟩ := List.mem_map.mp hb
    have hl := lts i hi
    show (((blocksOf names L)[i]?).getD []).Nodup
    rw [List.getElem?_eq_getElem hl]
    obtain ⟨x, hx, e⟩ := mem_blocks.mp (List.getElem_mem hl)
    show ((blocksOf names L)[i]).Nodup
    rw [e]
    exact (hn.filter _).filter _
  · refine List.pairwise_map.mpr ?_
    refine (List.Pairwise.and_mem.mp nds).imp fun {i j} ⟨hi, hj, hij⟩ => ?_
    intro x hx y hy e
    subst e
    have hx : x ∈ ((blocksOf names L)[i]?).getD [] := hx
    have hy : x ∈ ((blocksOf names L)[j]?).getD [] := hy
    rw [List.getElem?_eq_getElem (lts i hi)] at hx
    rw [List.getElem?_eq_getElem (lts j hj)] at hy
    exact hij (block_apart (List.getElem?_eq_getElem (lts i hi)) (List.getElem?_eq_getElem (lts j hj)) hx hy)
/-- a raw cut, put in order -/
theorem norm_raw {names : List Str} (hn : Ris ltS names) {L : Fam Str} {some : List Nat} (h : some ∈ subsN (blocksOf names L).length) {ys : List Str} (hp : ys.Perm (rawCut (shapeOf names L) some)) (hs : ys.Pairwise fun x y => ltS y x = false) : ys = cutOf names L some :=
  norm_eq hn hp hs (raw_nodup (Ris.nodup sto_str hn) h) fun x hx => raw_names hx
/-- the least cut nearest the spring, nearest the drain -/
theorem low_filter {names : List Str} {L : Fam Str} {r : List Str} (h : ∀ x, x ∈ r ↔ Low L x) : (names.filter fun x => decide (x ∈ r)) = names.filter (lowB L) := List.filter_congr fun x _ => by
  unfold lowB
  cases e : cdec (Low L x) with
  | true => exact decide_eq_true ((h x).mpr (cdec_iff.mp e))
  | false => exact decide_eq_false fun z => cdec_no.mp e ((h x).mp z)
noncomputable def leadB {ν : Type} (L : Fam ν) (x : ν) : Bool := cdec (Lead L x)
/-- some least cut has what is in the cut nearest the drain; some lacks what the one nearest the spring lacks -/
theorem some_has {L : Fam Str} {x : Str} (h : ¬ Lead L x) : ∃ S, L S ∧ S x = true := by
  refine Classical.byContradiction fun q => h fun S hS => ?_
  cases e : S x with
  | false => rfl
  | true => exact absurd ⟨S, hS, e⟩ q
theorem some_lacks {L : Fam Str} {x : Str} (h : ¬ Low L x) : ∃ S, L S ∧ S x = false := by
  refine Classical.byContradiction fun q => h fun S hS => ?_
  cases e : S x with
  | true => rfl
  | false => exact absurd ⟨S, hS, e⟩ q
end
end Cut
end
section
set_option autoImplicit false
namespace Cut
/-! ways on from each knot, roads -/
theorem nodup_len {α : Type} [DecidableEq α] : ∀ (l m : List α), l.Nodup → (∀ x ∈ l, x ∈ m) → l.length ≤ m.length
  | [], _, _, _ => Nat.zero_le _
  | a :: l, m, nd, h => by
    rw [List.nodup_cons] at nd
    have ha := h a List.mem_cons_self
    have := nodup_len l (m.erase a) nd.2 fun x hx => (List.mem_erase_of_ne (show x ≠ a from fun e => nd.1 (by rw [← e]; exact hx))).mpr (h x (List.mem_cons_of_mem _ hx))
    have e := List.length_erase_of_mem ha
    have p := List.length_pos_of_mem ha
    rw [List.length_cons]
    omega
section
variable {ν : Type} [DecidableEq ν]
/-- the ways that one arc gives at x -/
def stp1 (x : ν) (k : Nat) (a : Ar ν) : List (Stp ν) := (if a.t = x ∧ a.f < a.c then [⟨a.h, k, true, a.c - a.f⟩] else []) ++ (if a.h = x ∧ 0 < a.f then [⟨a.t, k, false, a.f⟩] else [])
def stpAt (net : List (Ar ν)) (x : ν) (k : Nat) : List (Stp ν) := match net[k]? with
  | some a => stp1 x k a
  | none => []
def restN (net : List (Ar ν)) (n : Nat) (x : ν) : List (Stp ν) := (List.range n).flatMap (stpAt net x)
theorem restN_succ (net : List (Ar ν)) (n : Nat) (x : ν) : restN net (n + 1) x = restN net n x ++ stpAt net x n := by
  unfold restN
  rw [List.range_succ, List.flatMap_append]
  simp
theorem mem_stp1 {x : ν} {k : Nat} {a : Ar ν} {st : Stp ν} : st ∈ stp1 x k a ↔ (a.t = x ∧ a.f < a.c ∧ st = ⟨a.h, k, true, a.c - a.f⟩) ∨ (a.h = x ∧ 0 < a.f ∧ st = ⟨a.t, k, false, a.f⟩) := by
  unfold stp1
  rw [List.mem_append]
  refine or_congr ?_ ?_
  · split
    · rename_i h; simp [h]
    · rename_i h
      constructor
      · intro q; simp at q
      · rintro ⟨h1, h2, _⟩; exact absurd ⟨h1, h2⟩ h
  · split
    · rename_i h; simp [h]
    · rename_i h
      constructor
      · intro q; simp at q
      · rintro ⟨h1, h2, _⟩; exact absurd ⟨h1, h2⟩ h
theorem mem_restN {net : List (Ar ν)} {x : ν} {st : Stp ν} : st ∈ restN net net.length x ↔ StepOk net x st := by
  unfold restN
  rw [List.mem_flatMap]
  constructor
  · rintro ⟨k, hk, h⟩
    have hk := List.mem_range.mp hk
    have e : net[k]? = some net[k] := List.getElem?_eq_getElem hk
    unfold stpAt at h
    rw [e] at h
    rcases mem_stp1.mp h with ⟨h1, h2, rfl⟩ | ⟨h1, h2, rfl⟩
    · exact ⟨net[k], e, by show 0 < net[k].c - net[k].f; omega, by rw [if_pos rfl]; exact ⟨h1, rfl, rfl⟩⟩
    · exact ⟨net[k], e, h2, by rw [if_neg (show ¬ (false = true) from Bool.false_ne_true)]; exact ⟨h1, rfl, rfl⟩⟩
  · rintro ⟨a, e, hr, h⟩
    refine ⟨st.num, List.mem_range.mpr (List.getElem?_eq_some_iff.mp e).1, ?_⟩
    unfold stpAt
    rw [e]
    refine mem_stp1.mpr ?_
    obtain ⟨o, n, al, r⟩ := st
    cases al with
    | true =>
      rw [if_pos rfl] at h
      obtain ⟨h1, h2, h3⟩ := h
      have h3 : r = a.c - a.f := h3
      have hr : 0 < r := hr
      have h2 : a.h = o := h2
      exact .inl ⟨h1, by omega, by rw [h3, h2]⟩
    | false =>
      rw [if_neg (show ¬ (false = true) from Bool.false_ne_true)] at h
      obtain ⟨h1, h2, h3⟩ := h
      have h3 : r = a.f := h3
      have hr : 0 < r := hr
      have h2 : a.t = o := h2
      exact .inr ⟨h1, by omega, by rw [h3, h2]⟩
theorem restN_len (net : List (Ar ν)) (x : ν) : ∀ n, (restN net n x).length ≤ 2 * n
  | 0 => Nat.zero_le _
  | n + 1 => by
    rw [restN_succ, List.length_append]
    have := restN_len net x n
    have : (stpAt net x n).length ≤ 2 := by
      unfold stpAt
      split
      · unfold stp1
        rw [List.length_append]
        split <;> split <;> simp
      · exact Nat.zero_le _
    omega
/-- all knots of a net -/
def knots (net : List (Ar ν)) : List ν := net.map (·.t) ++ net.map (·.h)
theorem knots_len (net : List (Ar ν)) : (knots net).length = 2 * net.length := by
  unfold knots
  rw [List.length_append, List.length_map, List.length_map]
  omega
theorem step_knot {net : List (Ar ν)} {x : ν} {st : Stp ν} (h : StepOk net x st) : st.other ∈ knots net := by
  obtain ⟨a, e, _, h⟩ := h
  have ha := List.mem_of_getElem? e
  unfold knots
  split at h
  · rw [← h.2.1]; exact List.mem_append_right _ (List.mem_map.mpr ⟨a, ha, rfl⟩)
  · rw [← h.2.1]; exact List.mem_append_left _ (List.mem_map.mpr ⟨a, ha, rfl⟩)
/-- a stands ahead of b -/
def Bef (ws : List ν) (a b : ν) : Prop := ∃ i j : Nat, i < j ∧ ws[i]? = some a ∧ ws[j]? = some b
theorem get_app {α : Type} {l m : List α} {i : Nat} {a : α} (h : l[i]? = some a) : (l ++ m)[i]? = some a := by
  have hl := (List.getElem?_eq_some_iff.mp h).1
  rw [List.getElem?_append_left hl]
  exact h
theorem Bef.app {ws vs : List ν} {a b : ν} (h : Bef ws a b) : Bef (ws ++ vs) a b := by
  obtain ⟨i, j, hij, h1, h2⟩ := h
  exact ⟨i, j, hij, get_app h1, get_app h2⟩
theorem nodup_at {α : Type} {l : List α} (h : l.Nodup) {i j : Nat} {a : α} (hi : l[i]? = some a) (hj : l[j]? = some a) : i = j := by
  obtain ⟨h1, e1⟩ := List.getElem?_eq_some_iff.mp hi
  obtain ⟨h2, e2⟩ := List.getElem?_eq_some_iff.mp hj
  exact (List.getElem_inj h).mp (e1.trans e2.symm)
theorem Bef.irr {ws : List ν} (nd : ws.Nodup) {a : ν} (h : Bef ws a a) : False := by
  obtain ⟨i, j, hij, h1, h2⟩ := h
  have := nodup_at nd h1 h2
  omega
theorem Bef.trans {ws : List ν} (nd : ws.Nodup) {a b c : ν} (h : Bef ws a b) (k : Bef ws b c) : Bef ws a c := by
  obtain ⟨i, j, hij, h1, h2⟩ := h
  obtain ⟨i', j', hij', h1', h2'⟩ := k
  have := nodup_at nd h2 h1'
  exact ⟨i, j', by omega, h1, h2'⟩
/-- how each one was come to -/
structure Came (net : List (Ar ν)) (ws : List ν) (x prev : ν) (st : Stp ν) : Prop where
  ok : StepOk net prev st
  to : st.other = x
  bef : Bef ws prev x
theorem Came.app {net : List (Ar ν)} {ws vs : List ν} {x prev : ν} {st : Stp ν} (h : Came net ws x prev st) : Came net (ws ++ vs) x prev st := ⟨h.ok, h.to, h.bef.app⟩
/-- the road so far, from x on -/
structure Trail (net : List (Ar ν)) (ws : List ν) (x e : ν) (fs : List (Stp ν)) : Prop where
  ch : Chain net x fs.reverse e
  nd : (fs.map (·.num)).Nodup
  src : ∀ st ∈ fs, ∃ y, Came net ws st.other y st ∧ (y = x ∨ Bef ws x y)
theorem trail_nil {net : List (Ar ν)} {ws : List ν} {e : ν} : Trail net ws e e [] := ⟨rfl, by simp, fun _ h => absurd h (by simp)⟩
theorem Trail.step {net : List (Ar ν)} {ws : List ν} {x prev e : ν} {fs : List (Stp ν)} {st : Stp ν} (nd : ws.Nodup) (t : Trail net ws x e fs) (c : Came net ws x prev st) : Trail net ws prev e (fs ++ [st]) := by
  refine ⟨?_, ?_, fun u hu => ?_⟩
  · rw [List.reverse_append]
    exact ⟨c.ok, by rw [c.to]; exact t.ch⟩
  · rw [List.map_append]
    refine List.nodup_append.mpr ⟨t.nd, by simp, fun n hn m hm e => ?_⟩
    have hm : m = st.num := by simpa using hm
    rw [hm] at e
    obtain ⟨u, hu, rfl⟩ := List.mem_map.mp hn
    obtain ⟨y, cu, hy⟩ := t.src u hu
    obtain ⟨a, ea, _, ha⟩ := c.ok
    obtain ⟨b, eb, _, hb⟩ := cu.ok
    rw [e, ea] at eb
    obtain rfl := Option.some.inj eb
    have up : ∀ z, z = x ∨ Bef ws x z → Bef ws prev z := fun z hz => by
      rcases hz with q | q
      · rw [q]; exact c.bef
      · exact c.bef.trans nd q
    have key : y = prev ∨ (y = x ∧ u.other = prev) := by
      cases h1 : st.along with
      | true =>
        rw [h1, if_pos rfl] at ha
        cases h2 : u.along with
        | true =>
          rw [h2, if_pos rfl] at hb
          exact .inl (hb.1.symm.trans ha.1)
        | false =>
          rw [h2, if_neg Bool.false_ne_true] at hb
          exact .inr ⟨hb.1.symm.trans (ha.2.1.trans c.to), hb.2.1.symm.trans ha.1⟩
      | false =>
        rw [h1, if_neg Bool.false_ne_true] at ha
        cases h2 : u.along with
        | true =>
          rw [h2, if_pos rfl] at hb
          exact .inr ⟨hb.1.symm.trans (ha.2.1.trans c.to), hb.2.1.symm.trans ha.1⟩
        | false =>
          rw [h2, if_neg Bool.false_ne_true] at hb
          exact .inl (hb.1.symm.trans ha.1)
    rcases key with q | ⟨q1, q2⟩
    · have := up y hy
      rw [q] at this
      exact this.irr nd
    · have := cu.bef
      rw [q1, q2] at this
      exact (c.bef.trans nd this).irr nd
  · rcases List.mem_append.mp hu with q | q
    · obtain ⟨y, cu, hy⟩ := t.src u q
      refine ⟨y, cu, .inr ?_⟩
      rcases hy with z | z
      · rw [z]; exact c.bef
      · exact c.bef.trans nd z
    · rw [List.mem_singleton.mp q]
      exact ⟨prev, by rw [c.to]; exact c, .inl rfl⟩
end
/-! arcs and what goes in them -/
section
variable {ν : Type}
def mkNet : List (ν × ν × Fr) → List Int → List Int → List (Ar ν)
  | a :: as, w :: ws, g :: gs => ⟨a.1, a.2.1, w, g⟩ :: mkNet as ws gs
  | _, _, _ => []
theorem mkNet_len : ∀ (as : List (ν × ν × Fr)) (ws gs : List Int), ws.length = as.length → gs.length = as.length → (mkNet as ws gs).length = as.length
  | [], _, _, _, _ => by unfold mkNet; rfl
  | _ :: _, [], _, h, _ => by simp at h
  | _ :: _, _ :: _, [], _, h => by simp at h
  | a :: as, w :: ws, g :: gs, h, k => by
    unfold mkNet
    rw [List.length_cons, List.length_cons, mkNet_len as ws gs (by simpa using h) (by simpa using k)]
theorem mkNet_get : ∀ (as : List (ν × ν × Fr)) (ws gs : List Int) (i : Nat) (a : ν × ν × Fr) (w g : Int), as[i]? = some a → ws[i]? = some w → gs[i]? = some g → (mkNet as ws gs)[i]? = some ⟨a.1, a.2.1, w, g⟩
  | [], _, _, _, _, _, _, h, _, _ => by simp at h
  | _ :: _, [], _, _, _, _, _, _, h, _ => by simp at h
  | _ :: _, _ :: _, [], _, _, _, _, _, _, h => by simp at h
  | x :: as, y :: ws, z :: gs, 0, a, w, g, h1, h2, h3 => by
    have e1 : x = a := Option.some.inj h1
    have e2 : y = w := Option.some.inj h2
    have e3 : z = g := Option.some.inj h3
    subst e1 e2 e3
    rfl
  | x :: as, y :: ws, z :: gs, i + 1, a, w, g, h1, h2, h3 => by
    unfold mkNet
    rw [List.getElem?_cons_succ]
    exact mkNet_get as ws gs i a w g h1 h2 h3
theorem mkNet_set : ∀ (as : List (ν × ν × Fr)) (ws gs : List Int) (i : Nat) (v : Int) (a : ν × ν × Fr) (w g : Int), as[i]? = some a → ws[i]? = some w → gs[i]? = some g → mkNet as ws (gs.set i v) = (mkNet as ws gs).set i ⟨a.1, a.2.1, w, v⟩
  | [], _, _, _, _, _, _, _, h, _, _ => by simp at h
  | _ :: _, [], _, _, _, _, _, _, _, h, _ => by simp at h
  | _ :: _, _ :: _, [], _, _, _, _, _, _, _, h => by simp at h
  | x :: as, y :: ws, z :: gs, 0, v, a, w, g, h1, h2, h3 => by
    have e1 : x = a := Option.some.inj h1
    have e2 : y = w := Option.some.inj h2
    subst e1 e2
    rfl
  | x :: as, y :: ws, z :: gs, i + 1, v, a, w, g, h1, h2, h3 => by
    show mkNet (x :: as) (y :: ws) (z :: gs.set i v) = _
    unfold mkNet
    rw [List.set_cons_succ, mkNet_set as ws gs i v a w g h1 h2 h3]
/-- one step's push, on the row of what goes -/
theorem mkNet_push [DecidableEq ν] {as : List (ν × ν × Fr)} {ws gs : List Int} (hw : ws.length = as.length) (hg : gs.length = as.length) {st : Stp ν} {m g : Int} (e : gs[st.num]? = some g) :
    push (mkNet as ws gs) m st = mkNet as ws (gs.set st.num (if st.along = true then g + m else g - m)) := by
  have hl := (List.getElem?_eq_some_iff.mp e).1
  have ea : as[st.num]? = some as[st.num] := List.getElem?_eq_getElem (by omega)
  have ew : ws[st.num]? = some ws[st.num] := List.getElem?_eq_getElem (by omega)
  unfold push
  rw [mkNet_get as ws gs st.num _ _ _ ea ew e, mkNet_set as ws gs st.num _ _ _ _ ea ew e]
end
end Cut
end
section
namespace Cut
open PySem PySem.Spec PyProof.Rows L2
/-! data that never change: ints, texts, truths, None, tuples of such -/
mutual
inductive Im (K : PySem.W.Frag) (H : Hp) : V → PyData → Prop
  | non : Im K H .non .none
  | bl (b : Bool) : Im K H (.bl b) (.bool b)
  | int (i : Int) : Im K H (.int i) (.int i)
  | str (x : Str) : Im K H (.str x) (.str x)
  | tup {a : Addr} {xs : List V} {ds : List PyData} : SqT K H a xs → ImAll K H xs ds → Im K H (.ref a) (.tuple ds)
inductive ImAll (K : PySem.W.Frag) (H : Hp) : List V → List PyData → Prop
  | nil : ImAll K H [] []
  | cons {v : V} {vs : List V} {d : PyData} {ds : List PyData} : Im K H v d → ImAll K H vs ds → ImAll K H (v :: vs) (d :: ds)
end
/-- tuples stay -/
def TupKeep (H H' : Hp) : Prop := ∀ a xs, Rd H a (.tup xs) → Rd H' a (.tup xs)
theorem TupKeep.refl (H : Hp) : TupKeep H H := fun _ _ h => h
theorem TupKeep.trans {H H1 H2 : Hp} (a : TupKeep H H1) (b : TupKeep H1 H2) : TupKeep H H2 := fun x xs h => b x xs (a x xs h)
theorem tk_same {H H' : Hp} (s : Same H H') : TupKeep H H' := fun a xs h => by
  rcases h with h | ⟨o, h⟩
  · exact .inl (s _ _ h)
  · exact .inr ⟨o, s _ _ h⟩
/-- neither a tuple nor locked -/
def Loose : HO → Prop
  | .tup _ => False
  | .frz _ _ => False
  | _ => True
theorem tk_upd {H : Hp} {a : Addr} {o o' : HO} (h : H a = some o) (l : Loose o) : TupKeep H (upd H a o') := fun b xs q => by
  have ne : b ≠ a := fun e => by
    subst e
    rcases q with q | ⟨ob, q⟩
    · rw [h] at q
      rw [Option.some.inj q] at l
      exact l
    · rw [h] at q
      rw [Option.some.inj q] at l
      exact l
  rcases q with q | ⟨ob, q⟩
  · exact .inl (by rw [upd_ne ne]; exact q)
  · exact .inr ⟨ob, by rw [upd_ne ne]; exact q⟩
theorem tk_new {H : Hp} {a : Addr} {o : HO} (h : H a = none) : TupKeep H (upd H a o) := tk_same fun b x e => by
  rw [upd_ne (ne_of_none e h)]
  exact e
theorem sqT_keep {K : PySem.W.Frag} {H H' : Hp} {a : Addr} {xs : List V} (k : TupKeep H H') (h : SqT K H a xs) : SqT K H' a xs := h.imp (k a xs) id
mutual
theorem Im.keep {K : PySem.W.Frag} {H H' : Hp} (k : TupKeep H H') : ∀ {v : V} {d : PyData}, Im K H v d → Im K H' v d
  | _, _, .non => .non
  | _, _, .bl b => .bl b
  | _, _, .int i => .int i
  | _, _, .str x => .str x
  | _, _, .tup q r => .tup (sqT_keep k q) (ImAll.keep k r)
theorem ImAll.keep {K : PySem.W.Frag} {H H' : Hp} (k : TupKeep H H') : ∀ {vs : List V} {ds : List PyData}, ImAll K H vs ds → ImAll K H' vs ds
  | _, _, .nil => .nil
  | _, _, .cons a b => .cons (Im.keep k a) (ImAll.keep k b)
end
theorem Im.same {K : PySem.W.Frag} {H H' : Hp} (s : Same H H') {v : V} {d : PyData} (h : Im K H v d) : Im K H' v d := h.keep (tk_same s)
theorem ImAll.same {K : PySem.W.Frag} {H H' : Hp} (s : Same H H') {v : List V} {d : List PyData} (h : ImAll K H v d) : ImAll K H' v d := h.keep (tk_same s)
mutual
theorem Im.dp {K : PySem.W.Frag} {H : Hp} : ∀ {v : V} {d : PyData}, Im K H v d → Dp K H v d
  | _, _, .non => .non
  | _, _, .bl b => .bl b
  | _, _, .int i => .int i
  | _, _, .str x => .str x
  | _, _, .tup q r => .tup q (ImAll.dp r)
theorem ImAll.dp {K : PySem.W.Frag} {H : Hp} : ∀ {vs : List V} {ds : List PyData}, ImAll K H vs ds → DpAll K H vs ds
  | _, _, .nil => .nil
  | _, _, .cons a b => .cons (Im.dp a) (ImAll.dp b)
end
section
variable {K : PySem.W.Frag} {H H' : Hp} {v : V} {vs ws : List V} {d : PyData} {ds es : List PyData}
theorem Im.int_inv {i : Int} (h : Im K H v (.int i)) : v = .int i := by cases h; rfl
theorem Im.str_inv {x : Str} (h : Im K H v (.str x)) : v = .str x := by cases h; rfl
theorem Im.bl_inv {b : Bool} (h : Im K H v (.bool b)) : v = .bl b := by cases h; rfl
theorem Im.non_inv (h : Im K H v .none) : v = .non := by cases h; rfl
theorem Im.tup_inv (h : Im K H v (.tuple ds)) : ∃ a xs, v = .ref a ∧ SqT K H a xs ∧ ImAll K H xs ds := by
  cases h with
  | tup q r => exact ⟨_, _, rfl, q, r⟩
theorem ImAll.length : ∀ {vs : List V} {ds : List PyData}, ImAll K H vs ds → vs.length = ds.length
  | _, _, .nil => rfl
  | _, _, .cons _ b => by rw [List.length_cons, List.length_cons, ImAll.length b]
theorem ImAll.get : ∀ {vs : List V} {ds : List PyData}, ImAll K H vs ds → ∀ {i : Nat} {d : PyData}, ds[i]? = some d → ∃ v, vs[i]? = some v ∧ Im K H v d
  | _, _, .nil, i, d, e => by simp at e
  | _, _, .cons a b, 0, d, e => by
    have e : _ = d := Option.some.inj e
    subst e
    exact ⟨_, rfl, a⟩
  | _, _, .cons a b, i + 1, d, e => ImAll.get b (i := i) (by simpa using e)
theorem ImAll.back : ∀ {vs : List V} {ds : List PyData}, ImAll K H vs ds → ∀ {i : Nat} {v : V}, vs[i]? = some v → ∃ d, ds[i]? = some d ∧ Im K H v d
  | _, _, .nil, i, d, e => by simp at e
  | _, _, .cons a b, 0, d, e => by
    have e : _ = d := Option.some.inj e
    subst e
    exact ⟨_, rfl, a⟩
  | _, _, .cons a b, i + 1, d, e => ImAll.back b (i := i) (by simpa using e)
theorem ImAll.app : ∀ {vs : List V} {ds : List PyData}, ImAll K H vs ds → ImAll K H ws es → ImAll K H (vs ++ ws) (ds ++ es)
  | _, _, .nil, h => h
  | _, _, .cons a b, h => .cons a (ImAll.app b h)
theorem ImAll.one (h : Im K H v d) : ImAll K H [v] [d] := .cons h .nil
theorem ImAll.snoc (h : ImAll K H vs ds) (k : Im K H v d) : ImAll K H (vs ++ [v]) (ds ++ [d]) := h.app (.one k)
theorem ImAll.take : ∀ (n : Nat) {vs : List V} {ds : List PyData}, ImAll K H vs ds → ImAll K H (vs.take n) (ds.take n)
  | 0, _, _, _ => .nil
  | _ + 1, _, _, .nil => .nil
  | n + 1, _, _, .cons a b => .cons a (ImAll.take n b)
theorem ImAll.drop : ∀ (n : Nat) {vs : List V} {ds : List PyData}, ImAll K H vs ds → ImAll K H (vs.drop n) (ds.drop n)
  | 0, _, _, h => h
  | _ + 1, _, _, .nil => .nil
  | n + 1, _, _, .cons a b => ImAll.drop n b
theorem ImAll.set : ∀ (i : Nat) {vs : List V} {ds : List PyData}, ImAll K H vs ds → Im K H v d → ImAll K H (vs.set i v) (ds.set i d)
  | _, _, _, .nil, _ => .nil
  | 0, _, _, .cons a b, h => .cons h b
  | i + 1, _, _, .cons a b, h => .cons a (ImAll.set i b h)
theorem ImAll.strs : ∀ {vs : List V} {xs : List Str}, ImAll K H vs (xs.map .str) → vs = xs.map V.str
  | _, [], h => by cases h; rfl
  | _, x :: r, h => by
    cases h with
    | cons a b => rw [a.str_inv, ImAll.strs b]; rfl
theorem ImAll.of_strs : ∀ xs : List Str, ImAll K H (xs.map V.str) (xs.map .str)
  | [] => .nil
  | x :: r => .cons (.str x) (ImAll.of_strs r)
theorem ImAll.ints : ∀ {vs : List V} {xs : List Int}, ImAll K H vs (xs.map .int) → vs = xs.map V.int
  | _, [], h => by cases h; rfl
  | _, x :: r, h => by
    cases h with
    | cons a b => rw [a.int_inv, ImAll.ints b]; rfl
theorem ImAll.of_ints : ∀ xs : List Int, ImAll K H (xs.map V.int) (xs.map .int)
  | [] => .nil
  | x :: r => .cons (.int x) (ImAll.of_ints r)
theorem ImAll.bls : ∀ {vs : List V} {xs : List Bool}, ImAll K H vs (xs.map .bool) → vs = xs.map V.bl
  | _, [], h => by cases h; rfl
  | _, x :: r, h => by
    cases h with
    | cons a b => rw [a.bl_inv, ImAll.bls b]; rfl
theorem ImAll.atI {i : Int} (h : ImAll K H vs ds) (e : atI ds i = some d) : ∃ v, L2.atI vs i = some v ∧ Im K H v d := by
  unfold L2.atI at e ⊢
  rw [h.length]
  cases q : ixN ds.length i with
  | none => rw [q] at e; cases e
  | some j =>
    rw [q] at e
    exact h.get e
end
/-! what an expression gives -/
structure Ob where
  p : V → Hp → Prop
  mono : ∀ v H H', Same H H' → p v H → p v H'
def oI (K : PySem.W.Frag) (d : PyData) : Ob := ⟨fun v H => Im K H v d, fun _ _ _ s h => h.same s⟩
def oV (v : V) : Ob := ⟨fun x _ => x = v, fun _ _ _ _ h => h⟩
/-- a list of such data -/
def LsAt (K : PySem.W.Frag) (H : Hp) (v : V) (ds : List PyData) : Prop := ∃ a xs, v = .ref a ∧ H a = some (.lst xs) ∧ ImAll K H xs ds
theorem LsAt.same {K : PySem.W.Frag} {H H' : Hp} {v : V} {ds : List PyData} (h : LsAt K H v ds) (s : Same H H') : LsAt K H' v ds := by
  obtain ⟨a, xs, e, h1, h2⟩ := h
  exact ⟨a, xs, e, s _ _ h1, h2.same s⟩
def oL (K : PySem.W.Frag) (ds : List PyData) : Ob := ⟨fun v H => LsAt K H v ds, fun _ _ _ s h => h.same s⟩
/-- a new list, not known to B -/
def LsNew (K : PySem.W.Frag) (B H : Hp) (v : V) (ds : List PyData) : Prop := ∃ a xs, v = .ref a ∧ B a = none ∧ H a = some (.lst xs) ∧ ImAll K H xs ds
def oN (K : PySem.W.Frag) (B : Hp) (ds : List PyData) : Ob := ⟨fun v H => LsNew K B H v ds, fun _ _ _ s ⟨a, xs, e, n, h1, h2⟩ => ⟨a, xs, e, n, s _ _ h1, h2.same s⟩⟩
/-- one of several -/
def oE {β : Type} (rel : β → Prop) (f : β → Ob) : Ob := ⟨fun v H => ∃ x, rel x ∧ (f x).p v H, fun v H H' s ⟨x, h, k⟩ => ⟨x, h, (f x).mono v H H' s k⟩⟩
inductive OAll : List Ob → List V → Hp → Prop
  | nil {H : Hp} : OAll [] [] H
  | cons {P : Ob} {Ps : List Ob} {v : V} {vs : List V} {H : Hp} : P.p v H → OAll Ps vs H → OAll (P :: Ps) (v :: vs) H
theorem OAll.same {H H' : Hp} (s : Same H H') : ∀ {Ps : List Ob} {vs : List V}, OAll Ps vs H → OAll Ps vs H'
  | _, _, .nil => .nil
  | _, _, .cons a b => .cons (Ob.mono _ _ _ _ s a) (OAll.same s b)
theorem OAll.length {H : Hp} : ∀ {Ps : List Ob} {vs : List V}, OAll Ps vs H → vs.length = Ps.length
  | _, _, .nil => rfl
  | _, _, .cons _ b => by rw [List.length_cons, List.length_cons, OAll.length b]
def Ev (te : TE) (σ : L2.St) (H : Hp) (P : Ob) : Prop := ∀ H1, Same H H1 → ∀ Q : VK, (∀ v H2, Same H1 H2 → P.p v H2 → Q v H2) → te σ H1 Q
def EvB (tt : TT) (σ : L2.St) (H : Hp) (b : Bool) : Prop := ∀ H1, Same H H1 → ∀ Q : Bool → Hp → Prop, (∀ H2, Same H1 H2 → Q b H2) → tt σ H1 Q
def EvA (ta : TA) (σ : L2.St) (H : Hp) (Ps : List Ob) : Prop := ∀ H1, Same H H1 → ∀ Q : List V → Hp → Prop, (∀ vs H2, Same H1 H2 → OAll Ps vs H2 → Q vs H2) → ta σ H1 Q
theorem same_new {H : Hp} {p : Addr} {o : HO} (h : H p = none) : Same H (upd H p o) := fun b x e => by
  rw [upd_ne (ne_of_none e h)]
  exact e
theorem same_mut {H H' : Hp} {p : Addr} {o : HO} (e : Same H H') (h : H p = none) : Same H (upd H' p o) := fun a u ha => by
  rw [upd_ne (ne_of_none ha h)]
  exact e a u ha
section
variable {K : PySem.W.Frag} {σ : L2.St} {H H' : Hp} {ta tb te tx : TE} {t u : TT} {x y v : V} {P P1 P2 : Ob} {Ps : List Ob} {d e : PyData} {ds es : List PyData} {i j : Int}
theorem Ev.same (s : Same H H') (h : Ev te σ H P) : Ev te σ H' P := fun H1 a Q q => h H1 (s.trans a) Q q
theorem EvB.same {b : Bool} (s : Same H H') (h : EvB t σ H b) : EvB t σ H' b := fun H1 a Q q => h H1 (s.trans a) Q q
theorem EvA.same {ta : TA} (s : Same H H') (h : EvA ta σ H Ps) : EvA ta σ H' Ps := fun H1 a Q q => h H1 (s.trans a) Q q
theorem Ev.imp (h : Ev te σ H P1) (k : ∀ v H2, Same H H2 → P1.p v H2 → P2.p v H2) : Ev te σ H P2 := fun H1 a Q q => h H1 a Q fun v H2 s p => q v H2 s (k v H2 (a.trans s) p)
theorem ev_var {i : Nat} (h : σ[i]? = some (some v)) (p : P.p v H) : Ev (tVar i) σ H P := fun H1 s Q q => ⟨v, h, q v H1 (Same.refl H1) (P.mono v H H1 s p)⟩
theorem ev_c (p : P.p v H) : Ev (tC v) σ H P := fun H1 s Q q => q v H1 (Same.refl H1) (P.mono v H H1 s p)
theorem ev_int : Ev (tC (.int i)) σ H (oI K (.int i)) := ev_c (P := oI K (.int i)) (Im.int i)
theorem ev_str {x : Str} : Ev (tC (.str x)) σ H (oI K (.str x)) := ev_c (P := oI K (.str x)) (Im.str x)
theorem ev_bl {b : Bool} : Ev (tC (.bl b)) σ H (oI K (.bool b)) := ev_c (P := oI K (.bool b)) (Im.bl b)
theorem ev_non : Ev (tC .non) σ H (oI K .none) := ev_c (P := oI K .none) Im.non
/-- a binary operation on values -/
theorem ev_op {r : R2} (ha : Ev ta σ H P1) (hb : Ev tb σ H P2) (hr : ∀ x y H1, Same H H1 → P1.p x H1 → P2.p y H1 → ∀ Q : VK, (∀ v H2, Same H1 H2 → P.p v H2 → Q v H2) → r x y H1 Q) : Ev (tOp r ta tb) σ H P := fun H1 s Q q =>
  ha H1 s _ fun x H2 s2 p2 => hb H2 (s.trans s2) _ fun y H3 s3 p3 => hr x y H3 ((s.trans s2).trans s3) (P1.mono _ _ _ s3 p2) p3 Q fun v H4 s4 p4 => q v H4 ((s2.trans s3).trans s4) p4
theorem ev_I0 {g : Int → Int → V} (ha : Ev ta σ H (oI K (.int i))) (hb : Ev tb σ H (oI K (.int j))) (hg : P.p (g i j) H) : Ev (tOp (rI0 g) ta tb) σ H P :=
  ev_op ha hb fun x y H1 s px py Q q => ⟨i, j, Im.int_inv px, Im.int_inv py, q _ H1 (Same.refl H1) (P.mono _ _ _ s hg)⟩
theorem ev_I {C : Int → Int → Prop} {g : Int → Int → V} (ha : Ev ta σ H (oI K (.int i))) (hb : Ev tb σ H (oI K (.int j))) (hc : C i j) (hg : P.p (g i j) H) : Ev (tOp (rI C g) ta tb) σ H P :=
  ev_op ha hb fun x y H1 s px py Q q => ⟨i, j, Im.int_inv px, Im.int_inv py, hc, q _ H1 (Same.refl H1) (P.mono _ _ _ s hg)⟩
theorem ev_add (ha : Ev ta σ H (oI K (.int i))) (hb : Ev tb σ H (oI K (.int j))) : Ev (tOp (rI0 fun i j => .int (i + j)) ta tb) σ H (oI K (.int (i + j))) := ev_I0 ha hb (Im.int _)
theorem ev_sub (ha : Ev ta σ H (oI K (.int i))) (hb : Ev tb σ H (oI K (.int j))) : Ev (tOp (rI0 fun i j => .int (i - j)) ta tb) σ H (oI K (.int (i - j))) := ev_I0 ha hb (Im.int _)
theorem ev_mul (ha : Ev ta σ H (oI K (.int i))) (hb : Ev tb σ H (oI K (.int j))) (hc : CMulW i j) : Ev (tOp (rI CMulW fun i j => .int (i * j)) ta tb) σ H (oI K (.int (i * j))) := ev_I ha hb hc (Im.int _)
theorem ev_div (ha : Ev ta σ H (oI K (.int i))) (hb : Ev tb σ H (oI K (.int j))) (hc : CDivW i j) : Ev (tOp (rI CDivW fun i j => .int (i / j)) ta tb) σ H (oI K (.int (i / j))) := ev_I ha hb hc (Im.int _)
theorem ev_mod (ha : Ev ta σ H (oI K (.int i))) (hb : Ev tb σ H (oI K (.int j))) (hc : 0 < j) : Ev (tOp (rI (fun _ j => 0 < j) fun i j => .int (i % j)) ta tb) σ H (oI K (.int (i % j))) := ev_I ha hb hc (Im.int _)
theorem ev_cmp {g : Int → Int → Bool} (ha : Ev ta σ H (oI K (.int i))) (hb : Ev tb σ H (oI K (.int j))) : Ev (tOp (rI0 fun i j => .bl (g i j)) ta tb) σ H (oI K (.bool (g i j))) := ev_I0 ha hb (Im.bl _)
theorem ev_eqI (ha : Ev ta σ H (oI K (.int i))) (hb : Ev tb σ H (oI K (.int j))) : Ev (tOp rEq ta tb) σ H (oI K (.bool (decide (i = j)))) :=
  ev_op ha hb fun x y H1 s px py Q q => by
    rw [Im.int_inv px, Im.int_inv py]
    refine ⟨rfl, q _ H1 (Same.refl H1) ?_⟩
    rw [show decide (V.int i = V.int j) = decide (i = j) from decide_eq_decide.mpr ⟨fun e => V.int.inj e, fun e => by rw [e]⟩]
    exact Im.bl _
theorem ev_neI (ha : Ev ta σ H (oI K (.int i))) (hb : Ev tb σ H (oI K (.int j))) : Ev (tOp rNe ta tb) σ H (oI K (.bool (!decide (i = j)))) :=
  ev_op ha hb fun x y H1 s px py Q q => by
    rw [Im.int_inv px, Im.int_inv py]
    refine ⟨rfl, q _ H1 (Same.refl H1) ?_⟩
    rw [show decide (V.int i = V.int j) = decide (i = j) from decide_eq_decide.mpr ⟨fun e => V.int.inj e, fun e => by rw [e]⟩]
    exact Im.bl _
theorem ev_eqS {a b : Str} (ha : Ev ta σ H (oI K (.str a))) (hb : Ev tb σ H (oI K (.str b))) : Ev (tOp rEq ta tb) σ H (oI K (.bool (decide (a = b)))) :=
  ev_op ha hb fun x y H1 s px py Q q => by
    rw [Im.str_inv px, Im.str_inv py]
    refine ⟨rfl, q _ H1 (Same.refl H1) ?_⟩
    rw [show decide (V.str a = V.str b) = decide (a = b) from decide_eq_decide.mpr ⟨fun e => V.str.inj e, fun e => by rw [e]⟩]
    exact Im.bl _
theorem ev_neS {a b : Str} (ha : Ev ta σ H (oI K (.str a))) (hb : Ev tb σ H (oI K (.str b))) : Ev (tOp rNe ta tb) σ H (oI K (.bool (!decide (a = b)))) :=
  ev_op ha hb fun x y H1 s px py Q q => by
    rw [Im.str_inv px, Im.str_inv py]
    refine ⟨rfl, q _ H1 (Same.refl H1) ?_⟩
    rw [show decide (V.str a = V.str b) = decide (a = b) from decide_eq_decide.mpr ⟨fun e => V.str.inj e, fun e => by rw [e]⟩]
    exact Im.bl _
theorem ev_eqD (ha : Ev ta σ H (oI K d)) (hb : Ev tb σ H (oI K e)) (h1 : SeqAt.shaped d = true) (h2 : SeqAt.shaped e = true) : Ev (tOp (rEqD K) ta tb) σ H (oI K (.bool (PyData.eqv d e))) :=
  ev_op ha hb fun x y H1 s px py Q q => ⟨d, e, Im.dp px, Im.dp py, h1, h2, q _ H1 (Same.refl H1) (Im.bl _)⟩
theorem ev_neD (ha : Ev ta σ H (oI K d)) (hb : Ev tb σ H (oI K e)) (h1 : SeqAt.shaped d = true) (h2 : SeqAt.shaped e = true) : Ev (tOp (rNeD K) ta tb) σ H (oI K (.bool (!PyData.eqv d e))) :=
  ev_op ha hb fun x y H1 s px py Q q => ⟨d, e, Im.dp px, Im.dp py, h1, h2, q _ H1 (Same.refl H1) (Im.bl _)⟩
/-! items -/
theorem ev_ixT (ha : Ev ta σ H (oI K (.tuple ds))) (hb : Ev tb σ H (oI K (.int i))) (h : atI ds i = some d) : Ev (tOp (rIxT K) ta tb) σ H (oI K d) :=
  ev_op ha hb fun x y H1 s px py Q q => by
    obtain ⟨a, xs, e1, h1, h2⟩ := Im.tup_inv px
    obtain ⟨v, h3, h4⟩ := h2.atI h
    exact ⟨a, xs, i, v, e1, Im.int_inv py, h1, h3, q v H1 (Same.refl H1) h4⟩
theorem ev_ixL (ha : Ev ta σ H (oL K ds)) (hb : Ev tb σ H (oI K (.int i))) (h : atI ds i = some d) : Ev (tOp (rIxL K) ta tb) σ H (oI K d) :=
  ev_op ha hb fun x y H1 s px py Q q => by
    obtain ⟨a, xs, e1, h1, h2⟩ := px
    obtain ⟨v, h3, h4⟩ := h2.atI h
    exact ⟨a, xs, i, v, e1, Im.int_inv py, SqL.of h1, h3, q v H1 (Same.refl H1) h4⟩
/-! argument lists, tuples, lists -/
theorem eva_nil : EvA tNil σ H [] := fun H1 _ _ q => q [] H1 (Same.refl H1) .nil
theorem eva_cons {tr : TA} (h : Ev ta σ H P) (hr : EvA tr σ H Ps) : EvA (tCons ta tr) σ H (P :: Ps) := fun H1 s _ q =>
  h H1 s _ fun x H2 s2 p2 => hr H2 (s.trans s2) _ fun xs H3 s3 p3 => q (x :: xs) H3 (s2.trans s3) (.cons (P.mono _ _ _ s3 p2) p3)
theorem oall_im : ∀ {ds : List PyData} {vs : List V} {H : Hp}, OAll (ds.map (oI K)) vs H → ImAll K H vs ds
  | [], _, _, h => by cases h; exact .nil
  | d :: ds, _, _, h => by
    cases h with
    | cons a b => exact .cons a (oall_im b)
theorem sz_le {n : Nat} (h : n ≤ 100000) : n ≤ sizeLine := Nat.le_trans h (by decide)
theorem sz_lt {n : Nat} (h : n < 100000) : n < sizeLine := Nat.lt_of_lt_of_le h (by decide)
theorem ev_tupA {ta : TA} (h : EvA ta σ H (ds.map (oI K))) (hl : ds.length ≤ 100000) : Ev (tTup ta) σ H (oI K (.tuple ds)) := fun H1 s Q q =>
  h H1 s _ fun vs H2 s2 p2 => by
    have hi := oall_im p2
    refine ⟨by rw [hi.length]; exact sz_le hl, fun a ha => q _ _ (s2.trans (same_new ha)) ?_⟩
    exact Im.tup (SqT.of upd_same) (hi.same (same_new ha))
theorem ev_tup0 : Ev (tTup tNil) σ H (oI K (.tuple [])) := ev_tupA (ds := []) eva_nil (by decide)
theorem ev_tup1 (h : Ev ta σ H (oI K d)) : Ev (tTup (tCons ta tNil)) σ H (oI K (.tuple [d])) := ev_tupA (ds := [d]) (eva_cons h eva_nil) (by simp)
theorem ev_tup2 (h : Ev ta σ H (oI K d)) (k : Ev tb σ H (oI K e)) : Ev (tTup (tCons ta (tCons tb tNil))) σ H (oI K (.tuple [d, e])) := ev_tupA (ds := [d, e]) (eva_cons h (eva_cons k eva_nil)) (by simp)
theorem ev_tup3 {tc : TE} {f : PyData} (h : Ev ta σ H (oI K d)) (k : Ev tb σ H (oI K e)) (l : Ev tc σ H (oI K f)) : Ev (tTup (tCons ta (tCons tb (tCons tc tNil)))) σ H (oI K (.tuple [d, e, f])) := ev_tupA (ds := [d, e, f]) (eva_cons h (eva_cons k (eva_cons l eva_nil))) (by simp)
theorem ev_tup4 {tc td : TE} {f g : PyData} (h : Ev ta σ H (oI K d)) (k : Ev tb σ H (oI K e)) (l : Ev tc σ H (oI K f)) (m : Ev td σ H (oI K g)) : Ev (tTup (tCons ta (tCons tb (tCons tc (tCons td tNil))))) σ H (oI K (.tuple [d, e, f, g])) := ev_tupA (ds := [d, e, f, g]) (eva_cons h (eva_cons k (eva_cons l (eva_cons m eva_nil)))) (by simp)
theorem ev_tup5 {tc td tf : TE} {f g g2 : PyData} (h : Ev ta σ H (oI K d)) (k : Ev tb σ H (oI K e)) (l : Ev tc σ H (oI K f)) (m : Ev td σ H (oI K g)) (n : Ev tf σ H (oI K g2)) : Ev (tTup (tCons ta (tCons tb (tCons tc (tCons td (tCons tf tNil)))))) σ H (oI K (.tuple [d, e, f, g, g2])) := ev_tupA (ds := [d, e, f, g, g2]) (eva_cons h (eva_cons k (eva_cons l (eva_cons m (eva_cons n eva_nil))))) (by simp)
theorem fresh_same {p : Addr} (s : Same H H') (h : H' p = none) : H p = none := s.free h
/-- a list display: a new list -/
theorem ev_lstN {ta : TA} (h : EvA ta σ H (ds.map (oI K))) (hl : ds.length ≤ 100000) : Ev (tLst ta) σ H (oN K H ds) := fun H1 s Q q =>
  h H1 s _ fun vs H2 s2 p2 => by
    have hi := oall_im p2
    refine ⟨by rw [hi.length]; exact sz_le hl, fun a ha => q _ _ (s2.trans (same_new ha)) ?_⟩
    exact ⟨a, vs, rfl, (s.trans s2).free ha, upd_same, hi.same (same_new ha)⟩
theorem LsNew.ls {B : Hp} (h : LsNew K B H v ds) : LsAt K H v ds := let ⟨a, xs, e, _, h1, h2⟩ := h; ⟨a, xs, e, h1, h2⟩
theorem Ev.ls {B : Hp} (h : Ev te σ H (oN K B ds)) : Ev te σ H (oL K ds) := h.imp fun _ _ _ p => LsNew.ls p
theorem ev_nil : Ev (tLst tNil) σ H (oN K H []) := ev_lstN (ds := []) eva_nil (by decide)
/-! tests -/
theorem evb_test {b : Bool} (h : Ev te σ H (oI K (.bool b))) : EvB (tTest te) σ H b := fun H1 s _ q => h H1 s _ fun v H2 s2 p => ⟨b, Im.bl_inv p, q H2 s2⟩
theorem evb_B {b : Bool} (h : Ev te σ H (oI K (.bool b))) : EvB (tB te) σ H b := fun H1 s _ q => h H1 s _ fun v H2 s2 p => ⟨b, Im.bl_inv p, q H2 s2⟩
theorem evb_and {a b : Bool} (h1 : EvB t σ H a) (h2 : a = true → EvB u σ H b) : EvB (tAnd t u) σ H (a && b) := fun H1 s Q q => h1 H1 s _ fun H2 s2 => by
  cases a with
  | true =>
    show u σ H2 Q
    exact h2 rfl H2 (s.trans s2) Q fun H3 s3 => q H3 (s2.trans s3)
  | false =>
    show Q false H2
    exact q H2 s2
theorem evb_or {a b : Bool} (h1 : EvB t σ H a) (h2 : a = false → EvB u σ H b) : EvB (tOr t u) σ H (a || b) := fun H1 s Q q => h1 H1 s _ fun H2 s2 => by
  cases a with
  | true =>
    show Q true H2
    exact q H2 s2
  | false =>
    show u σ H2 Q
    exact h2 rfl H2 (s.trans s2) Q fun H3 s3 => q H3 (s2.trans s3)
theorem evb_not {a : Bool} (h1 : EvB t σ H a) : EvB (tNot t) σ H (!a) := fun H1 s _ q => h1 H1 s _ fun H2 s2 => q H2 s2
theorem evb_yes : EvB tYes σ H true := fun H1 _ _ q => q H1 (Same.refl H1)
theorem evb_is {a b : Bool} (h : EvB t σ H a) (e : a = b) : EvB t σ H b := e ▸ h
theorem ev_is {P P' : Ob} (h : Ev te σ H P) (e : P = P') : Ev te σ H P' := e ▸ h
theorem ev_isD (h : Ev te σ H (oI K d)) (q : d = e) : Ev te σ H (oI K e) := q ▸ h
theorem ev_andV {a b : Bool} (h1 : Ev ta σ H (oI K (.bool a))) (h2 : a = true → Ev tb σ H (oI K (.bool b))) : Ev (tAndV ta tb) σ H (oI K (.bool (a && b))) := fun H1 s Q q => h1 H1 s _ fun v H2 s2 p => ⟨a, Im.bl_inv p, by
  cases a with
  | true =>
    show tb σ H2 Q
    exact h2 rfl H2 (s.trans s2) Q fun w H3 s3 p3 => q w H3 (s2.trans s3) p3
  | false =>
    show Q (.bl false) H2
    exact q _ H2 s2 (Im.bl _)⟩
theorem ev_orV {a b : Bool} (h1 : Ev ta σ H (oI K (.bool a))) (h2 : a = false → Ev tb σ H (oI K (.bool b))) : Ev (tOrV ta tb) σ H (oI K (.bool (a || b))) := fun H1 s Q q => h1 H1 s _ fun v H2 s2 p => ⟨a, Im.bl_inv p, by
  cases a with
  | true =>
    show Q (.bl true) H2
    exact q _ H2 s2 (Im.bl _)
  | false =>
    show tb σ H2 Q
    exact h2 rfl H2 (s.trans s2) Q fun w H3 s3 p3 => q w H3 (s2.trans s3) p3⟩
theorem ev_notV {a : Bool} (h1 : Ev ta σ H (oI K (.bool a))) : Ev (tNotV ta) σ H (oI K (.bool (!a))) := fun H1 s _ q => h1 H1 s _ fun v H2 s2 p => ⟨a, Im.bl_inv p, q _ H2 s2 (Im.bl _)⟩
theorem ev_if {b : Bool} (h : EvB t σ H b) (h1 : b = true → Ev ta σ H P) (h2 : b = false → Ev tb σ H P) : Ev (tIf t ta tb) σ H P := fun H1 s Q q => h H1 s _ fun H2 s2 => by
  cases b with
  | true =>
    show ta σ H2 Q
    exact h1 rfl H2 (s.trans s2) Q fun w H3 s3 p3 => q w H3 (s2.trans s3) p3
  | false =>
    show tb σ H2 Q
    exact h2 rfl H2 (s.trans s2) Q fun w H3 s3 p3 => q w H3 (s2.trans s3) p3
/-! membership -/
theorem inV_str {x : Str} : ∀ xs : List Str, inV (.str x) (xs.map V.str) = decide (x ∈ xs)
  | [] => by simp [inV]
  | a :: r => by
    have ih := inV_str (x := x) r
    unfold inV at ih ⊢
    rw [List.map_cons, List.any_cons, ih]
    have e : eqV (V.str a) (V.str x) = decide (a = x) := by
      unfold eqV
      first | rfl | simp
    rw [e]
    by_cases h : a = x
    · subst h
      simp
    · have : ¬ x = a := fun q => h q.symm
      simp [h, this]
theorem inV_int {x : Int} : ∀ xs : List Int, inV (.int x) (xs.map V.int) = decide (x ∈ xs)
  | [] => by simp [inV]
  | a :: r => by
    have ih := inV_int (x := x) r
    unfold inV at ih ⊢
    rw [List.map_cons, List.any_cons, ih]
    have e : eqV (V.int a) (V.int x) = decide (a = x) := by
      unfold eqV
      first | rfl | simp
    rw [e]
    by_cases h : a = x
    · subst h
      simp
    · have : ¬ x = a := fun q => h q.symm
      simp [h, this]
theorem flat_strs (xs : List Str) : (xs.map V.str).all flatV = true := by
  rw [List.all_map]
  exact List.all_eq_true.mpr fun x _ => rfl
theorem flat_ints (xs : List Int) : (xs.map V.int).all flatV = true := by
  rw [List.all_map]
  exact List.all_eq_true.mpr fun x _ => rfl
/-- a row of texts: a tuple or a list -/
def SqAt (K : PySem.W.Frag) (H : Hp) (v : V) (ds : List PyData) : Prop := Im K H v (.tuple ds) ∨ LsAt K H v ds
def oQ (K : PySem.W.Frag) (ds : List PyData) : Ob := ⟨fun v H => SqAt K H v ds, fun _ _ _ s h => h.imp (fun h => h.same s) fun h => h.same s⟩
theorem Ev.qT (h : Ev te σ H (oI K (.tuple ds))) : Ev te σ H (oQ K ds) := h.imp fun _ _ _ p => .inl p
theorem Ev.qL (h : Ev te σ H (oL K ds)) : Ev te σ H (oQ K ds) := h.imp fun _ _ _ p => .inr p
theorem SqAt.sq (h : SqAt K H v ds) : ∃ a xs, v = .ref a ∧ (SqL K H a xs ∨ SqT K H a xs) ∧ ImAll K H xs ds := by
  rcases h with h | ⟨a, xs, e, h1, h2⟩
  · obtain ⟨a, xs, e, h1, h2⟩ := Im.tup_inv h
    exact ⟨a, xs, e, .inr h1, h2⟩
  · exact ⟨a, xs, e, .inl (SqL.of h1), h2⟩
theorem ev_inS {neg : Bool} {x : Str} {xs : List Str} (ha : Ev ta σ H (oI K (.str x))) (hb : Ev tb σ H (oQ K (xs.map .str))) : Ev (tOp (rIn K neg) ta tb) σ H (oI K (.bool (if neg then !decide (x ∈ xs) else decide (x ∈ xs)))) :=
  ev_op ha hb fun a b H1 s pa pb Q q => by
    obtain ⟨p, ys, e1, h1, h2⟩ := SqAt.sq pb
    obtain rfl := h2.strs
    rw [Im.str_inv pa]
    refine ⟨p, _, e1, h1, rfl, flat_strs xs, q _ H1 (Same.refl H1) ?_⟩
    rw [inV_str]
    exact Im.bl _
theorem ev_inN {neg : Bool} {x : Int} {xs : List Int} (ha : Ev ta σ H (oI K (.int x))) (hb : Ev tb σ H (oQ K (xs.map .int))) : Ev (tOp (rIn K neg) ta tb) σ H (oI K (.bool (if neg then !decide (x ∈ xs) else decide (x ∈ xs)))) :=
  ev_op ha hb fun a b H1 s pa pb Q q => by
    obtain ⟨p, ys, e1, h1, h2⟩ := SqAt.sq pb
    obtain rfl := h2.ints
    rw [Im.int_inv pa]
    refine ⟨p, _, e1, h1, rfl, flat_ints xs, q _ H1 (Same.refl H1) ?_⟩
    rw [inV_int]
    exact Im.bl _
end
end Cut
end
section
namespace Cut
open PySem PySem.Spec PyProof.Rows L2
/-! statements -/
section
variable {K : PySem.W.Frag} {σ : L2.St} {H H' : Hp} {ta tb te tx : TE} {t u : TT} {x y v : V} {P P1 P2 : Ob} {Ps : List Ob} {d e : PyData} {ds es : List PyData} {D : Ends} {tu tw tz : TS} {g : TG}
theorem s_set {i : Nat} (h : Ev te σ H P) (k : ∀ v H1, Same H H1 → P.p v H1 → D.nx (σ.set i (some v)) H1) : tAsg te (gName i) D σ H := h H (Same.refl H) _ k
theorem s_asg (h : Ev te σ H P) (k : ∀ v H1, Same H H1 → P.p v H1 → g v σ H1 D.nx) : tAsg te g D σ H := h H (Same.refl H) _ k
theorem s_ret (h : Ev te σ H P) (k : ∀ v H1, Same H H1 → P.p v H1 → D.rt v H1) : tRet te D σ H := h H (Same.refl H) _ k
theorem s_drop (h : Ev te σ H P) (k : ∀ v H1, Same H H1 → P.p v H1 → D.nx σ H1) : tDrop te D σ H := h H (Same.refl H) _ k
theorem s_if {b : Bool} (h : EvB t σ H b) (h1 : b = true → ∀ H1, Same H H1 → tu D σ H1) (h2 : b = false → ∀ H1, Same H H1 → tw D σ H1) : tIfS t tu tw D σ H := h H (Same.refl H) _ fun H1 s => by
  cases b with
  | true =>
    show tu D σ H1
    exact h1 rfl H1 s
  | false =>
    show tw D σ H1
    exact h2 rfl H1 s
theorem s_when {b : Bool} (h : EvB t σ H b) (h1 : b = true → ∀ H1, Same H H1 → tu D σ H1) (h2 : b = false → ∀ H1, Same H H1 → D.nx σ H1) : tIfS t tu tNext D σ H := s_if h h1 h2
theorem q_set {i : Nat} (h : Ev te σ H P) (k : ∀ v H1, Same H H1 → P.p v H1 → tz D (σ.set i (some v)) H1) : tSeq (tAsg te (gName i)) tz D σ H := s_set (D := { D with nx := tz D }) h k
theorem q_asg (h : Ev te σ H P) (k : ∀ v H1, Same H H1 → P.p v H1 → g v σ H1 (tz D)) : tSeq (tAsg te g) tz D σ H := s_asg (D := { D with nx := tz D }) h k
theorem q_drop (h : Ev te σ H P) (k : ∀ v H1, Same H H1 → P.p v H1 → tz D σ H1) : tSeq (tDrop te) tz D σ H := s_drop (D := { D with nx := tz D }) h k
theorem q_if {b : Bool} (h : EvB t σ H b) (h1 : b = true → ∀ H1, Same H H1 → tu { D with nx := tz D } σ H1) (h2 : b = false → ∀ H1, Same H H1 → tw { D with nx := tz D } σ H1) : tSeq (tIfS t tu tw) tz D σ H := s_if (D := { D with nx := tz D }) h h1 h2
theorem q_when {b : Bool} (h : EvB t σ H b) (h1 : b = true → ∀ H1, Same H H1 → tu { D with nx := tz D } σ H1) (h2 : b = false → ∀ H1, Same H H1 → tz D σ H1) : tSeq (tIfS t tu tNext) tz D σ H := s_if (D := { D with nx := tz D }) h h1 h2
/-- an if without else whose test is false -/
theorem q_skip (h : EvB t σ H false) (h2 : ∀ H1, Same H H1 → tz D σ H1) : tSeq (tIfS t tu tNext) tz D σ H := q_when h (fun e => nomatch e) fun _ => h2
/-- an if that returns -/
theorem q_take {b : Bool} (h : EvB t σ H true) (h1 : ∀ H1, Same H H1 → tu { D with nx := tz D } σ H1) : tSeq (tIfS t tu tw) tz D σ H := q_if h (fun _ => h1) fun e => nomatch e
/-! append to a list of ours -/
theorem s_app {l : Addr} {xs : List V} (hl : H l = some (.lst xs)) (ha : Ev ta σ H (oV (.ref l))) (h : Ev te σ H P) (hz : xs.length < 100000) (k : ∀ v H1, Same H H1 → P.p v H1 → D.nx σ (upd H1 l (.lst (xs ++ [v])))) :
    tDrop (tBM K "list" rAppend ta (tCons te tNil)) D σ H := ha H (Same.refl H) _ fun x H1 s1 e1 => by
  obtain rfl : x = .ref l := e1
  refine ⟨.inl ⟨rfl, _, SqL.of (s1 _ _ hl)⟩, ?_⟩
  exact h H1 s1 _ fun v H2 s2 p2 => ⟨l, xs, v, rfl, rfl, s2 _ _ (s1 _ _ hl), sz_lt hz, k v H2 (s1.trans s2) p2⟩
theorem q_app {l : Addr} {xs : List V} (hl : H l = some (.lst xs)) (ha : Ev ta σ H (oV (.ref l))) (h : Ev te σ H P) (hz : xs.length < 100000) (k : ∀ v H1, Same H H1 → P.p v H1 → tz D σ (upd H1 l (.lst (xs ++ [v])))) :
    tSeq (tDrop (tBM K "list" rAppend ta (tCons te tNil))) tz D σ H := s_app (D := { D with nx := tz D }) hl ha h hz k
theorem s_ext {l : Addr} {xs : List V} (hl : H l = some (.lst xs)) (ha : Ev ta σ H (oV (.ref l))) (h : Ev te σ H (oL K ds)) (hz : xs.length + ds.length ≤ 100000) (k : ∀ ys H1, Same H H1 → ImAll K H1 ys ds → D.nx σ (upd H1 l (.lst (xs ++ ys)))) :
    tDrop (tBM K "list" rExtend ta (tCons te tNil)) D σ H := ha H (Same.refl H) _ fun x H1 s1 e1 => by
  obtain rfl : x = .ref l := e1
  refine ⟨.inl ⟨rfl, _, SqL.of (s1 _ _ hl)⟩, ?_⟩
  refine h H1 s1 _ fun v H2 s2 p2 => ?_
  obtain ⟨b, ys, rfl, hb, hi⟩ := p2
  exact ⟨l, b, xs, ys, rfl, rfl, s2 _ _ (s1 _ _ hl), hb, by rw [hi.length]; exact sz_le hz, k ys H2 (s1.trans s2) hi⟩
theorem q_ext {l : Addr} {xs : List V} (hl : H l = some (.lst xs)) (ha : Ev ta σ H (oV (.ref l))) (h : Ev te σ H (oL K ds)) (hz : xs.length + ds.length ≤ 100000) (k : ∀ ys H1, Same H H1 → ImAll K H1 ys ds → tz D σ (upd H1 l (.lst (xs ++ ys)))) :
    tSeq (tDrop (tBM K "list" rExtend ta (tCons te tNil))) tz D σ H := s_ext (D := { D with nx := tz D }) hl ha h hz k
/-! while -/
theorem s_while (W : Nat → L2.St → Hp → Prop) (m0 : Nat) (h0 : W m0 σ H)
    (hs : ∀ m σ' H', W m σ' H' → ∃ b, EvB t σ' H' b ∧ (b = true → ∀ H1, Same H' H1 → tu { D with nx := fun σ2 H2 => ∃ m', m' < m ∧ W m' σ2 H2, ct := fun σ2 H2 => ∃ m', m' < m ∧ W m' σ2 H2, bk := D.nx } σ' H1) ∧ (b = false → ∀ H1, Same H' H1 → D.nx σ' H1)) : tWhile t tu D σ H := by
  refine ⟨W, ⟨m0, h0⟩, fun m σ' H' w => ?_⟩
  obtain ⟨b, hb, h1, h2⟩ := hs m σ' H' w
  refine hb H' (Same.refl H') _ fun H1 s => ?_
  cases b with
  | true => exact ⟨_, fun _ _ n => n, h1 rfl H1 s⟩
  | false => exact h2 rfl H1 s
theorem q_while (W : Nat → L2.St → Hp → Prop) (m0 : Nat) (h0 : W m0 σ H)
    (hs : ∀ m σ' H', W m σ' H' → ∃ b, EvB t σ' H' b ∧ (b = true → ∀ H1, Same H' H1 → tu { D with nx := fun σ2 H2 => ∃ m', m' < m ∧ W m' σ2 H2, ct := fun σ2 H2 => ∃ m', m' < m ∧ W m' σ2 H2, bk := tz D } σ' H1) ∧ (b = false → ∀ H1, Same H' H1 → tz D σ' H1)) : tSeq (tWhile t tu) tz D σ H :=
  s_while (D := { D with nx := tz D }) W m0 h0 hs
/-! parallel assignment -/
theorem q_par {i j : Nat} {ta : TA} (h : EvA ta σ H [P1, P2]) (k : ∀ v w H1, Same H H1 → P1.p v H1 → P2.p w H1 → tz D ((σ.set i (some v)).set j (some w)) H1) : tSeq (tPar i j ta) tz D σ H :=
  h H (Same.refl H) _ fun vs H1 s p => by
    cases p with
    | cons a b =>
      cases b with
      | cons a2 b2 =>
        cases b2
        exact ⟨_, _, rfl, k _ _ H1 s a a2⟩
theorem s_par {i j : Nat} {ta : TA} (h : EvA ta σ H [P1, P2]) (k : ∀ v w H1, Same H H1 → P1.p v H1 → P2.p w H1 → D.nx ((σ.set i (some v)).set j (some w)) H1) : tPar i j ta D σ H :=
  h H (Same.refl H) _ fun vs H1 s p => by
    cases p with
    | cons a b =>
      cases b with
      | cons a2 b2 =>
        cases b2
        exact ⟨_, _, rfl, k _ _ H1 s a a2⟩
theorem q_par3 {i j l : Nat} {ta : TA} {P3 : Ob} (h : EvA ta σ H [P1, P2, P3]) (k : ∀ v w z H1, Same H H1 → P1.p v H1 → P2.p w H1 → P3.p z H1 → tz D (((σ.set i (some v)).set j (some w)).set l (some z)) H1) : tSeq (tPar3 i j l ta) tz D σ H :=
  h H (Same.refl H) _ fun vs H1 s p => by
    cases p with
    | cons a b =>
      cases b with
      | cons a2 b2 =>
        cases b2 with
        | cons a3 b3 =>
          cases b3
          exact ⟨_, _, _, rfl, k _ _ _ H1 s a a2 a3⟩
/-! targets -/
theorem g_tup {n : Nat} {gs : TGs} {Q : L2.St → Hp → Prop} (h : Im K H v (.tuple ds)) (hn : ds.length = n) (k : ∀ vs, ImAll K H vs ds → gs vs σ H Q) : gTup K n gs v σ H Q := by
  obtain ⟨a, xs, e, h1, h2⟩ := h.tup_inv
  exact ⟨a, xs, e, h1, by rw [h2.length]; exact hn, k xs h2⟩
/-- names only -/
def putAll : List Nat → List V → L2.St → L2.St
  | i :: is, v :: vs, σ => putAll is vs (σ.set i (some v))
  | _, _, σ => σ
def gNames : List Nat → TGs
  | [] => gNil
  | i :: is => gCons (gName i) (gNames is)
theorem g_names : ∀ (is : List Nat) (vs : List V) (σ : L2.St) (Q : L2.St → Hp → Prop), vs.length = is.length → Q (putAll is vs σ) H → gNames is vs σ H Q
  | [], [], σ, Q, _, q => ⟨rfl, q⟩
  | [], _ :: _, _, _, h, _ => by simp at h
  | _ :: _, [], _, _, h, _ => by simp at h
  | i :: is, v :: vs, σ, Q, h, q => ⟨v, vs, rfl, g_names is vs (σ.set i (some v)) Q (by simpa using h) q⟩
theorem g_tupN {is : List Nat} {Q : L2.St → Hp → Prop} {n : Nat} (hn : n = is.length) (h : Im K H v (.tuple ds)) (hl : ds.length = is.length) (k : ∀ vs, ImAll K H vs ds → Q (putAll is vs σ) H) : gTup K n (gNames is) v σ H Q :=
  g_tup h (hl.trans hn.symm) fun vs hv => g_names is vs σ Q (by rw [hv.length, hl]) (k vs hv)
end
/-! walks -/
/-- the i-th turn gives the i-th datum; tuples may be made -/
def YD (K : PySem.W.Frag) (ds : List PyData) : Nat → Hp → V → Hp → Prop := fun i H x H' => Same H H' ∧ ∃ d, ds[i]? = some d ∧ Im K H' x d
/-- over things that never change -/
def EvI (K : PySem.W.Frag) (wi : TI) (σ : L2.St) (H : Hp) (ds : List PyData) : Prop :=
  ∀ H1, Same H H1 → ∀ R : It → Hp → Prop, (∀ J H2, Same H1 H2 → Walk J ds.length (fun H3 => TupKeep H2 H3) (YD K ds) → R J H2) → wi σ H1 R
/-- over a list -/
def EvIL (K : PySem.W.Frag) (wi : TI) (σ : L2.St) (H : Hp) (ds : List PyData) : Prop :=
  ∀ H1, Same H H1 → ∀ R : It → Hp → Prop, (∀ J a xs H2, Same H1 H2 → H2 a = some (.lst xs) → Walk J ds.length (fun H3 => TupKeep H2 H3 ∧ H3 a = some (.lst xs)) (YD K ds) → R J H2) → wi σ H1 R
section
variable {K : PySem.W.Frag} {σ : L2.St} {H H' : Hp} {ta tb te tx : TE} {t u : TT} {x y v : V} {P P1 P2 : Ob} {Ps : List Ob} {d e : PyData} {ds es : List PyData} {D : Ends} {tu tw tz : TS} {g : TG} {wi : TI}
theorem evi_tup (h : Ev te σ H (oI K (.tuple ds))) : EvI K (iTup K te) σ H ds := fun H1 s R q => h H1 s _ fun v H2 s2 p => by
  obtain ⟨a, xs, rfl, h1, h2⟩ := Im.tup_inv p
  refine ⟨a, rfl, ⟨xs, h1⟩, q _ H2 s2 ?_⟩
  rw [← h2.length]
  exact (walk_tup (K := K) (a := a) (xs := xs)).mono (fun H3 k => sqT_keep k h1) fun i H x H' _ k ⟨e, y⟩ => by
    obtain ⟨d, hd, hi⟩ := h2.back y
    subst e
    exact ⟨Same.refl _, d, hd, hi.keep k⟩
theorem evi_list (h : Ev te σ H (oL K ds)) : EvIL K (iList K te) σ H ds := fun H1 s R q => h H1 s _ fun v H2 s2 p => by
  obtain ⟨a, xs, rfl, h1, h2⟩ := p
  refine ⟨a, rfl, ⟨xs, SqL.of h1⟩, q _ a xs H2 s2 h1 ?_⟩
  rw [← h2.length]
  exact (walk_list (K := K) (a := a) (xs := xs)).mono (fun H3 k => SqL.of k.2) fun i H x H' _ k ⟨e, y⟩ => by
    obtain ⟨d, hd, hi⟩ := h2.back y
    subst e
    exact ⟨Same.refl _, d, hd, hi.keep k.1⟩
theorem evi_rng1 {n : Int} (h : Ev te σ H (oI K (.int n))) (hn : 0 ≤ n ∧ n ≤ 1000000) : EvI K (iRng1 (tCons te tNil)) σ H ((List.range n.toNat).map fun (i : Nat) => PyData.int i) := fun H1 s R q => h H1 s _ fun v H2 s2 p => by
  obtain rfl := Im.int_inv p
  refine ⟨n, rfl, by omega, by omega, q _ H2 s2 ?_⟩
  rw [List.length_map, List.length_range]
  refine (walk_range (lo := 0) (n := n.toNat)).mono (fun _ _ => trivial) fun i H x H' hi _ ⟨e, y⟩ => ?_
  subst e
  refine ⟨Same.refl _, .int i, by rw [List.getElem?_map, List.getElem?_range hi]; rfl, ?_⟩
  rw [y]
  show Im K _ (V.int (0 + (i : Int))) _
  rw [Int.zero_add]
  exact Im.int _
/-- zip of two tuples -/
def pairD (ds es : List PyData) : List PyData := (ds.zip es).map fun z => .tuple [z.1, z.2]
theorem evi_zip2 {ta : TA} (h : EvA ta σ H [oI K (.tuple ds), oI K (.tuple es)]) (hl : ds.length = es.length) : EvI K (RZ.iZipA K ta) σ H (pairD ds es) := fun H1 s R q => h H1 s _ fun vs H2 s2 p => by
  cases p with
  | cons p1 p =>
    cases p with
    | cons p2 p =>
      cases p
      obtain ⟨a, xs, rfl, h1, h2⟩ := Im.tup_inv p1
      obtain ⟨b, ys, rfl, k1, k2⟩ := Im.tup_inv p2
      refine ⟨a, b, xs, ys, rfl, .inr ⟨h1, k1, q _ H2 s2 ?_⟩⟩
      have l1 := h2.length
      have l2 := k2.length
      have ln : (pairD ds es).length = xs.length := by
        unfold pairD
        rw [List.length_map, List.length_zip]
        omega
      rw [ln]
      refine ⟨fun i H3 hi k => ?_, fun H3 k => ⟨xs, ys, sqT_keep k h1, sqT_keep k k1, .inl (Nat.le_refl _)⟩, fun i H3 x H' hi k y => ?_⟩
      · exact ⟨xs, ys, xs[i], ys[i]'(by omega), sqT_keep k h1, sqT_keep k k1, List.getElem?_eq_getElem hi, List.getElem?_eq_getElem (by omega)⟩
      · obtain ⟨T, x1, y1, rfl, nT, rfl, f1, f2⟩ := y
        obtain ⟨d, hd, hi1⟩ := h2.back (f1 xs (sqT_keep k h1))
        obtain ⟨e, he, hi2⟩ := k2.back (f2 ys (sqT_keep k k1))
        have sm := same_new (o := .tup [x1, y1]) nT
        refine ⟨sm, .tuple [d, e], ?_, Im.tup (SqT.of upd_same) (.cons ((hi1.keep k).same sm) (.one ((hi2.keep k).same sm)))⟩
        unfold pairD
        rw [List.getElem?_map, (List.getElem?_zip_eq_some (z := (d, e))).mpr ⟨hd, he⟩]
        rfl
theorem s_for (hi : EvI K wi σ H ds) (k : ∀ H2, Same H H2 → ∃ Pv : Nat → L2.St → Hp → Prop, Pv 0 σ H2 ∧ (∀ i σ' H', Pv i σ' H' → TupKeep H2 H') ∧
      (∀ i d x σ' H' H'', ds[i]? = some d → Pv i σ' H' → Same H' H'' → Im K H'' x d → g x σ' H'' fun σ2 H2 => tu { D with nx := Pv (i + 1), ct := Pv (i + 1), bk := D.nx } σ2 H2) ∧ ∀ σ' H', Pv ds.length σ' H' → D.nx σ' H') : tFor wi g tu D σ H :=
  hi H (Same.refl H) _ fun J H2 s2 w => by
    obtain ⟨Pv, h0, hk, ht, hd⟩ := k H2 s2
    exact for_it w Pv h0 (fun i σ' H' _ p => hk i σ' H' p) (fun i x σ' H' H'' _ p ⟨y1, d, hd, y2⟩ => ht i d x σ' H' H'' hd p y1 y2) hd
theorem q_for (hi : EvI K wi σ H ds) (k : ∀ H2, Same H H2 → ∃ Pv : Nat → L2.St → Hp → Prop, Pv 0 σ H2 ∧ (∀ i σ' H', Pv i σ' H' → TupKeep H2 H') ∧
      (∀ i d x σ' H' H'', ds[i]? = some d → Pv i σ' H' → Same H' H'' → Im K H'' x d → g x σ' H'' fun σ2 H2 => tu { D with nx := Pv (i + 1), ct := Pv (i + 1), bk := tz D } σ2 H2) ∧ ∀ σ' H', Pv ds.length σ' H' → tz D σ' H') : tSeq (tFor wi g tu) tz D σ H := s_for (D := { D with nx := tz D }) hi k
theorem s_forL (hi : EvIL K wi σ H ds) (k : ∀ H2 a xs, Same H H2 → H2 a = some (.lst xs) → ∃ Pv : Nat → L2.St → Hp → Prop, Pv 0 σ H2 ∧ (∀ i σ' H', Pv i σ' H' → TupKeep H2 H' ∧ H' a = some (.lst xs)) ∧
      (∀ i d x σ' H' H'', ds[i]? = some d → Pv i σ' H' → Same H' H'' → Im K H'' x d → g x σ' H'' fun σ2 H2 => tu { D with nx := Pv (i + 1), ct := Pv (i + 1), bk := D.nx } σ2 H2) ∧ ∀ σ' H', Pv ds.length σ' H' → D.nx σ' H') : tFor wi g tu D σ H :=
  hi H (Same.refl H) _ fun J a xs H2 s2 h1 w => by
    obtain ⟨Pv, h0, hk, ht, hd⟩ := k H2 a xs s2 h1
    exact for_it w Pv h0 (fun i σ' H' _ p => hk i σ' H' p) (fun i x σ' H' H'' _ p ⟨y1, d, hd, y2⟩ => ht i d x σ' H' H'' hd p y1 y2) hd
theorem q_forL (hi : EvIL K wi σ H ds) (k : ∀ H2 a xs, Same H H2 → H2 a = some (.lst xs) → ∃ Pv : Nat → L2.St → Hp → Prop, Pv 0 σ H2 ∧ (∀ i σ' H', Pv i σ' H' → TupKeep H2 H' ∧ H' a = some (.lst xs)) ∧
      (∀ i d x σ' H' H'', ds[i]? = some d → Pv i σ' H' → Same H' H'' → Im K H'' x d → g x σ' H'' fun σ2 H2 => tu { D with nx := Pv (i + 1), ct := Pv (i + 1), bk := tz D } σ2 H2) ∧ ∀ σ' H', Pv ds.length σ' H' → tz D σ' H') : tSeq (tFor wi g tu) tz D σ H := s_forL (D := { D with nx := tz D }) hi k
/-! comprehensions -/
/-- what is kept of the first n -/
def kept (n : Nat) (f : Nat → Bool) (v : Nat → PyData) : List PyData := ((List.range n).filter f).map v
theorem kept_yes {n : Nat} {f : Nat → Bool} {v : Nat → PyData} (h : f n = true) : kept (n + 1) f v = kept n f v ++ [v n] := by
  unfold kept
  rw [List.range_succ, List.filter_append, List.map_append, List.filter_cons, if_pos h]
  rfl
theorem kept_no {n : Nat} {f : Nat → Bool} {v : Nat → PyData} (h : f n = false) : kept (n + 1) f v = kept n f v := by
  unfold kept
  rw [List.range_succ, List.filter_append, List.map_append, List.filter_cons, if_neg (by rw [h]; decide)]
  show _ ++ [] = _
  rw [List.append_nil]
theorem kept_len (n : Nat) (f : Nat → Bool) (v : Nat → PyData) : (kept n f v).length ≤ n := by
  unfold kept
  rw [List.length_map]
  have h := List.length_filter_le f (List.range n)
  rw [List.length_range] at h
  exact h
theorem kept_all (n : Nat) (v : Nat → PyData) : kept n (fun _ => true) v = (List.range n).map v := by
  unfold kept
  rw [List.filter_eq_self.mpr fun _ _ => rfl]
/-- the data of the comprehension that a row of data gives -/
theorem kept_zip {α : Type} (l : List α) (f : α → Bool) (v : α → PyData) {F : Nat → Bool} {G : Nat → PyData} (hF : ∀ i a, l[i]? = some a → F i = f a) (hG : ∀ i a, l[i]? = some a → f a = true → G i = v a) : kept l.length F G = (l.filter f).map v := by
  have key : ∀ n, n ≤ l.length → kept n F G = ((l.take n).filter f).map v := by
    intro n
    induction n with
    | zero => intro _; rfl
    | succ n ih =>
      intro hn
      have e : l[n]? = some l[n] := List.getElem?_eq_getElem hn
      rw [List.take_add_one, e]
      show _ = ((l.take n ++ [l[n]]).filter f).map v
      rw [List.filter_append, List.map_append, List.filter_cons]
      cases h : f l[n] with
      | true =>
        rw [kept_yes (by rw [hF n _ e, h]), ih (by omega), hG n _ e h]
        rfl
      | false =>
        rw [kept_no (by rw [hF n _ e, h]), ih (by omega)]
        simp
  have := key l.length (Nat.le_refl _)
  rw [List.take_length] at this
  exact this
theorem kept_map {α : Type} (l : List α) (v : α → PyData) {F : Nat → Bool} {G : Nat → PyData} (hF : ∀ i a, l[i]? = some a → F i = true) (hG : ∀ i a, l[i]? = some a → G i = v a) : kept l.length F G = l.map v := by
  rw [kept_zip l (fun _ => true) v hF fun i a h _ => hG i a h, List.filter_eq_self.mpr fun _ _ => rfl]
theorem ev_lc {vs : List Nat} (hi : EvI K wi σ H ds) (hz : ds.length ≤ 40000) (F : Nat → Bool) (G : Nat → PyData)
    (k : ∀ i d x H1, ds[i]? = some d → Same H H1 → Im K H1 x d → g x (wipe σ vs) H1 fun σ2 H2 => wipe σ2 vs = wipe σ vs ∧ Same H1 H2 ∧ EvB t σ2 H2 (F i) ∧ (F i = true → Ev te σ2 H2 (oI K (G i))))
    (gm : ∀ (x : V) (σ : L2.St) (H : Hp) (Q Q' : L2.St → Hp → Prop), (∀ σ' H', Q σ' H' → Q' σ' H') → g x σ H Q → g x σ H Q') : Ev (tLc wi g t te vs) σ H (oN K H (kept ds.length F G)) := fun H0 s0 Q q =>
  hi H0 s0 _ fun J H1 s1 w Dl hD => by
    refine lc_it w (fun i H' => Same H1 H' ∧ ∃ xs, H' Dl = some (.lst xs) ∧ ImAll K H' xs (kept i F G)) ⟨same_new hD, [], upd_same, .nil⟩ (fun i H' _ p => tk_same p.1) (fun i x H2 H3 hl p y => ?_) fun H' p => ?_
    · obtain ⟨p1, xs, p2, p3⟩ := p
      obtain ⟨y1, d, hd, y2⟩ := y
      refine gm _ _ _ _ _ (fun σ4 H4 z => ?_) (k i d x H3 hd ((s0.trans s1).trans (p1.trans y1)) y2)
      obtain ⟨z1, z2, z3, z4⟩ := z
      refine ⟨z1, z3 H4 (Same.refl H4) _ fun H5 s5 => ?_⟩
      cases hf : F i with
      | true =>
        show te σ4 H5 fun y H6 => ∃ acc, H6 Dl = some (.lst acc) ∧ acc.length < sizeLine ∧ _
        refine z4 hf H5 s5 _ fun y H6 s6 hy => ⟨xs, s6 _ _ (s5 _ _ (z2 _ _ (y1 _ _ p2))), ?_, ?_, ?_⟩
        · rw [p3.length]
          exact sz_lt (by have := kept_len i F G; omega)
        · exact same_mut ((((p1.trans y1).trans z2).trans s5).trans s6) hD
        · refine ⟨_, upd_same, ?_⟩
          rw [kept_yes hf]
          have k6 : TupKeep H6 (upd H6 Dl (.lst (xs ++ [y]))) := tk_upd (s6 _ _ (s5 _ _ (z2 _ _ (y1 _ _ p2)))) trivial
          exact ((p3.same (((y1.trans z2).trans s5).trans s6)).keep k6).snoc (Im.keep k6 hy)
      | false =>
        show Same H1 H5 ∧ _
        refine ⟨((p1.trans y1).trans z2).trans s5, xs, s5 _ _ (z2 _ _ (y1 _ _ p2)), ?_⟩
        rw [kept_no hf]
        exact p3.same ((y1.trans z2).trans s5)
    · obtain ⟨p1, xs, p2, p3⟩ := p
      exact q _ H' (s1.trans p1) ⟨Dl, xs, rfl, (s0.trans s1).free hD, p2, p3⟩
theorem ev_lcL {vs : List Nat} (hi : EvIL K wi σ H ds) (hz : ds.length ≤ 40000) (F : Nat → Bool) (G : Nat → PyData)
    (k : ∀ i d x H1, ds[i]? = some d → Same H H1 → Im K H1 x d → g x (wipe σ vs) H1 fun σ2 H2 => wipe σ2 vs = wipe σ vs ∧ Same H1 H2 ∧ EvB t σ2 H2 (F i) ∧ (F i = true → Ev te σ2 H2 (oI K (G i))))
    (gm : ∀ (x : V) (σ : L2.St) (H : Hp) (Q Q' : L2.St → Hp → Prop), (∀ σ' H', Q σ' H' → Q' σ' H') → g x σ H Q → g x σ H Q') : Ev (tLc wi g t te vs) σ H (oN K H (kept ds.length F G)) := fun H0 s0 Q q =>
  hi H0 s0 _ fun J a ys H1 s1 h1 w Dl hD => by
    refine lc_it w (fun i H' => Same H1 H' ∧ ∃ xs, H' Dl = some (.lst xs) ∧ ImAll K H' xs (kept i F G)) ⟨same_new hD, [], upd_same, .nil⟩ (fun i H' _ p => ⟨tk_same p.1, p.1 _ _ h1⟩) (fun i x H2 H3 hl p y => ?_) fun H' p => ?_
    · obtain ⟨p1, xs, p2, p3⟩ := p
      obtain ⟨y1, d, hd, y2⟩ := y
      refine gm _ _ _ _ _ (fun σ4 H4 z => ?_) (k i d x H3 hd ((s0.trans s1).trans (p1.trans y1)) y2)
      obtain ⟨z1, z2, z3, z4⟩ := z
      refine ⟨z1, z3 H4 (Same.refl H4) _ fun H5 s5 => ?_⟩
      cases hf : F i with
      | true =>
        show te σ4 H5 fun y H6 => ∃ acc, H6 Dl = some (.lst acc) ∧ acc.length < sizeLine ∧ _
        refine z4 hf H5 s5 _ fun y H6 s6 hy => ⟨xs, s6 _ _ (s5 _ _ (z2 _ _ (y1 _ _ p2))), ?_, ?_, ?_⟩
        · rw [p3.length]
          exact sz_lt (by have := kept_len i F G; omega)
        · exact same_mut ((((p1.trans y1).trans z2).trans s5).trans s6) hD
        · refine ⟨_, upd_same, ?_⟩
          rw [kept_yes hf]
          have k6 : TupKeep H6 (upd H6 Dl (.lst (xs ++ [y]))) := tk_upd (s6 _ _ (s5 _ _ (z2 _ _ (y1 _ _ p2)))) trivial
          exact ((p3.same (((y1.trans z2).trans s5).trans s6)).keep k6).snoc (Im.keep k6 hy)
      | false =>
        show Same H1 H5 ∧ _
        refine ⟨((p1.trans y1).trans z2).trans s5, xs, s5 _ _ (z2 _ _ (y1 _ _ p2)), ?_⟩
        rw [kept_no hf]
        exact p3.same ((y1.trans z2).trans s5)
    · obtain ⟨p1, xs, p2, p3⟩ := p
      exact q _ H' (s1.trans p1) ⟨Dl, xs, rfl, (s0.trans s1).free hD, p2, p3⟩
theorem gm_name {i : Nat} : ∀ (x : V) (σ : L2.St) (H : Hp) (Q Q' : L2.St → Hp → Prop), (∀ σ' H', Q σ' H' → Q' σ' H') → gName i x σ H Q → gName i x σ H Q' := fun _ _ _ _ _ h k => h _ _ k
theorem gm_names : ∀ (is : List Nat) (vs : List V) (σ : L2.St) (H : Hp) (Q Q' : L2.St → Hp → Prop), (∀ σ' H', Q σ' H' → Q' σ' H') → gNames is vs σ H Q → gNames is vs σ H Q'
  | [], _, _, _, _, _, h, k => ⟨k.1, h _ _ k.2⟩
  | i :: is, _, _, _, _, _, h, ⟨v, r, e, k⟩ => ⟨v, r, e, gm_names is _ _ _ _ _ h k⟩
theorem gm_tup {n : Nat} {gs : TGs} (hs : ∀ (vs : List V) (σ : L2.St) (H : Hp) (Q Q' : L2.St → Hp → Prop), (∀ σ' H', Q σ' H' → Q' σ' H') → gs vs σ H Q → gs vs σ H Q') : ∀ (x : V) (σ : L2.St) (H : Hp) (Q Q' : L2.St → Hp → Prop), (∀ σ' H', Q σ' H' → Q' σ' H') → gTup K n gs x σ H Q → gTup K n gs x σ H Q' := fun _ _ _ _ _ h ⟨a, xs, e, h1, h2, k⟩ => ⟨a, xs, e, h1, h2, hs _ _ _ _ _ h k⟩
theorem gm_cons {g : TG} {gs : TGs} (hg : ∀ (x : V) (σ : L2.St) (H : Hp) (Q Q' : L2.St → Hp → Prop), (∀ σ' H', Q σ' H' → Q' σ' H') → g x σ H Q → g x σ H Q') (hs : ∀ (vs : List V) (σ : L2.St) (H : Hp) (Q Q' : L2.St → Hp → Prop), (∀ σ' H', Q σ' H' → Q' σ' H') → gs vs σ H Q → gs vs σ H Q') :
    ∀ (vs : List V) (σ : L2.St) (H : Hp) (Q Q' : L2.St → Hp → Prop), (∀ σ' H', Q σ' H' → Q' σ' H') → gCons g gs vs σ H Q → gCons g gs vs σ H Q' := fun _ _ _ _ _ h ⟨v, r, e, k⟩ => ⟨v, r, e, hg _ _ _ _ _ (fun _ _ z => hs _ _ _ _ _ h z) k⟩
theorem gm_nil : ∀ (vs : List V) (σ : L2.St) (H : Hp) (Q Q' : L2.St → Hp → Prop), (∀ σ' H', Q σ' H' → Q' σ' H') → gNil vs σ H Q → gNil vs σ H Q' := fun _ _ _ _ _ h k => ⟨k.1, h _ _ k.2⟩
end

/-- over a list at a known place -/
def EvIA (K : PySem.W.Frag) (wi : TI) (σ : L2.St) (H : Hp) (a : Addr) (xs : List V) (ds : List PyData) : Prop :=
  ∀ H1, Same H H1 → ∀ R : It → Hp → Prop, (∀ J H2, Same H1 H2 → Walk J ds.length (fun H3 => TupKeep H2 H3 ∧ H3 a = some (.lst xs)) (YD K ds) → R J H2) → wi σ H1 R
section
variable {K : PySem.W.Frag} {σ : L2.St} {H : Hp} {te : TE} {a : Addr} {xs : List V} {ds : List PyData} {D : Ends} {tu tz : TS} {g : TG} {wi : TI}
theorem evi_listA (h : Ev te σ H (oV (.ref a))) (h1 : H a = some (.lst xs)) (h2 : ImAll K H xs ds) : EvIA K (iList K te) σ H a xs ds := fun H1 s R q => h H1 s _ fun v H2 s2 p => by
  obtain rfl : v = .ref a := p
  have k1 := s2 _ _ (s _ _ h1)
  have k2 := h2.same (s.trans s2)
  refine ⟨a, rfl, ⟨xs, SqL.of k1⟩, q _ H2 s2 ?_⟩
  rw [← h2.length]
  exact (walk_list (K := K) (a := a) (xs := xs)).mono (fun H3 k => SqL.of k.2) fun i H x H' _ k ⟨e, y⟩ => by
    obtain ⟨d, hd, hi⟩ := k2.back y
    subst e
    exact ⟨Same.refl _, d, hd, hi.keep k.1⟩
theorem s_forA (hi : EvIA K wi σ H a xs ds) (k : ∀ H2, Same H H2 → ∃ Pv : Nat → L2.St → Hp → Prop, Pv 0 σ H2 ∧ (∀ i σ' H', Pv i σ' H' → TupKeep H2 H' ∧ H' a = some (.lst xs)) ∧
      (∀ i d x σ' H' H'', ds[i]? = some d → Pv i σ' H' → Same H' H'' → Im K H'' x d → g x σ' H'' fun σ2 H2 => tu { D with nx := Pv (i + 1), ct := Pv (i + 1), bk := D.nx } σ2 H2) ∧ ∀ σ' H', Pv ds.length σ' H' → D.nx σ' H') : tFor wi g tu D σ H :=
  hi H (Same.refl H) _ fun J H2 s2 w => by
    obtain ⟨Pv, h0, hk, ht, hd⟩ := k H2 s2
    exact for_it w Pv h0 (fun i σ' H' _ p => hk i σ' H' p) (fun i x σ' H' H'' _ p ⟨y1, d, hd, y2⟩ => ht i d x σ' H' H'' hd p y1 y2) hd
theorem q_forA (hi : EvIA K wi σ H a xs ds) (k : ∀ H2, Same H H2 → ∃ Pv : Nat → L2.St → Hp → Prop, Pv 0 σ H2 ∧ (∀ i σ' H', Pv i σ' H' → TupKeep H2 H' ∧ H' a = some (.lst xs)) ∧
      (∀ i d x σ' H' H'', ds[i]? = some d → Pv i σ' H' → Same H' H'' → Im K H'' x d → g x σ' H'' fun σ2 H2 => tu { D with nx := Pv (i + 1), ct := Pv (i + 1), bk := tz D } σ2 H2) ∧ ∀ σ' H', Pv ds.length σ' H' → tz D σ' H') : tSeq (tFor wi g tu) tz D σ H := s_forA (D := { D with nx := tz D }) hi k
end
/-! promises -/
/-- arguments as Ps tells, what is asked of them, what comes back -/
def spD {α : Type} (Ps : α → List Ob) (pre : α → Prop) (R : α → Ob) : Sp := fun vs H Q _ => ∃ a, pre a ∧ OAll (Ps a) vs H ∧ ∀ v H', Same H H' → (R a).p v H' → Q v H'
/-- a def that stands and keeps a promise -/
structure At (P : Program) (w : World) (K : PySem.W.Frag) (mg : Str → Option Value) (base : Heap) (k : Nat) (x : Str) (ps : List Str) (sp : Sp) : Prop where
  ex : ∃ f fd, FnOk P w K mg base CX0 k f fd ps sp ∧ mg x = some (.ref f) ∧ PySem.W.keepIn K (.ref f) = true ∧ Binds K fd ps []
/-- .. that stands -/
structure Def (K : PySem.W.Frag) (mg : Str → Option Value) (x : Str) (st : Stmt) (ps : List Str) : Prop where
  ex : ∃ f fd, Fun K x x st f fd ∧ mg x = some (.ref f) ∧ Binds K fd ps []
section
variable {P : Program} {w : World} {K : PySem.W.Frag} {mg : Str → Option Value} {base : Heap}
theorem At.mono {j k : Nat} {x : Str} {ps : List Str} {sp : Sp} (F : At P w K mg base j x ps sp) (h : j ≤ k) : At P w K mg base k x ps sp := by
  obtain ⟨f, fd, h1, h2⟩ := F.ex
  exact ⟨f, fd, h1.mono h, h2⟩
theorem at_of {α : Type} {x : Str} {st : Stmt} {N ps : List Str} {k : Nat} {Ps : α → List Ob} {pre : α → Prop} {R : α → Ob} (F : Def K mg x st ps) (S : FnScope N ps (defScope st)) (len : ∀ a, (Ps a).length = ps.length)
    (body : ∀ (f : Addr) (cdv : Value) (A : Around) (outer : List Env) (s : Shared) (H : Hp) (vs : List V) (Q : VK) (E : XK) (a : α), Room k (A.deeper (envOfC x (defScope st) s.heap.objs.size f cdv)) → pre a → OAll (Ps a) vs H → (∀ v H', Same H H' → (R a).p v H' → Q v H') →
      ∃ t, PSs (cxOf CX0 P w K mg base N x (defScope st) f cdv A outer s H E).nox (defBody st) t ∧ t { nx := fun _ H' => Q .non H', rt := Q } (start N vs) H) : At P w K mg base (k + 1) x ps (spD Ps pre R) := by
  obtain ⟨f, fd, h1, h2, h3⟩ := F.ex
  refine ⟨f, fd, ?_, h2, h1.kp, h3⟩
  refine h1.ok S (fun vs H Q E h => ?_) fun cdv A outer s H vs Q E hr h => ?_
  · obtain ⟨a, _, h, _⟩ := h
    rw [h.length, len]
  · obtain ⟨a, h4, h5, h6⟩ := h
    exact body f cdv A outer s H vs Q E a hr h4 h5 h6
end
section
variable {X : Cx} {k : Nat} {ps : List Str} {sp : Sp} {x : Str} {p pos : Pos} {e : Expr} {es : List Expr} {t : TA}
/-- a call of such a def -/
theorem pe_at (F : At X.prog X.w X.K X.mg X.base k x ps sp) (hr : Room k X.A) (hg : Gl X x) (ha : PA X (e :: es) t) (hdb : (x == ("__debug__" : Str)) = false := by decide +kernel)
    (he : starEach (e :: es) X.env = (false, eval e X.env) :: starEach es X.env := by rfl) (hpl : (backTo pos (starEach es X.env)).any (·.1) = false := by rfl) : PE X (.Call (.Name x p) (e :: es) [] pos) (tCall sp [] E0 t) := by
  obtain ⟨f, fd, h1, h2, h3, h4⟩ := F.ex
  exact pe_call h1 hr hg h2 h3 h4 .nil pass0 ha hdb he hpl
end
section
variable {K : PySem.W.Frag} {σ : L2.St} {H H' : Hp} {ta : TA}
theorem ev_call {α : Type} {Ps : α → List Ob} {pre : α → Prop} {R : α → Ob} (a : α) (h : EvA ta σ H (Ps a)) (hp : pre a) : Ev (tCall (spD Ps pre R) [] E0 ta) σ H (R a) := fun H1 s Q q =>
  h H1 s _ fun vs H2 s2 p2 => ⟨a, hp, by rw [List.append_nil]; exact p2, fun v H3 s3 p3 => q v H3 (s2.trans s3) p3⟩
end
end Cut
end
section
namespace Cut
open PySem PySem.Spec PyProof.Rows L2
/-! built-ins by name, their readings -/
def rLenS (K : PySem.W.Frag) : List V → Hp → VK → Prop := fun xs H Q => ∃ p ys, xs = [.ref p] ∧ (SqL K H p ys ∨ SqT K H p ys) ∧ Q (.int ys.length) H
def rListOf (K : PySem.W.Frag) : List V → Hp → VK → Prop := fun xs H Q => ∃ p ys, xs = [.ref p] ∧ (SqL K H p ys ∨ SqT K H p ys) ∧ ∀ l, H l = none → Q (.ref l) (upd H l (.lst ys))
def rTupleOf (K : PySem.W.Frag) : List V → Hp → VK → Prop := fun xs H Q => ∃ p ys, xs = [.ref p] ∧ ((SqL K H p ys ∧ ∀ l, H l = none → Q (.ref l) (upd H l (.tup ys))) ∨ (SqT K H p ys ∧ Q (.ref p) H))
def rAbs : List V → Hp → VK → Prop := fun xs H Q => ∃ i, xs = [.int i] ∧ Q (.int (if i < 0 then -i else i)) H
def rMax2 : List V → Hp → VK → Prop := fun xs H Q => ∃ i j, xs = [.int i, .int j] ∧ Q (.int (if j > i then j else i)) H
def rInt1 : List V → Hp → VK → Prop := fun xs H Q => (∃ i, xs = [.int i] ∧ Q (.int i) H) ∨ ∃ k, xs = [.bl k] ∧ Q (.int (if k then 1 else 0)) H
def rLenD : List V → Hp → VK → Prop := fun xs H Q => ∃ a kvs, xs = [V.ref a] ∧ H a = some (.dK kvs) ∧ Q (.int kvs.length) H
def rDictP (K : PySem.W.Frag) : List V → Hp → VK → Prop := fun xs H Q => ∃ (a : Addr) (ps : List Addr) (kvs : List (Key × V)), xs = [.ref a] ∧ SqL K H a (ps.map V.ref) ∧ Paired (fun p kv => SqT K H p [kV kv.1, kv.2]) ps kvs ∧
    ∀ p, H p = none → Q (.ref p) (upd H p (.dK (mergeK [] kvs)))
section
variable {X : Cx}
theorem cr_lenS : CallR X (.builtin "len") (rLenS X.K) := call_len_seq
theorem cr_listOf : CallR X (.type "list") (rListOf X.K) := call_list_of
theorem cr_tupleOf : CallR X (.type "tuple") (rTupleOf X.K) := call_tuple_of
theorem cr_abs : CallR X (.builtin "abs") rAbs := call_abs
theorem cr_max2 (hc : X.calm = true) : CallR X (.builtin "max") rMax2 := call_max2 hc
theorem cr_int1 : CallR X (.type "int") rInt1 := call_int1
theorem cr_lenD : CallR X (.builtin "len") rLenD := call_lenD
theorem cr_dictP (hc : X.calm = true) : CallR X (.type "dict") (rDictP X.K) := call_dictP hc
end
theorem units65 {k : Nat} {A : Around} (h : Room k A) : A.units + 65 < cLine := by have := h.un; omega
section
variable {K : PySem.W.Frag} {σ : L2.St} {H H' : Hp} {ta : TA} {te : TE} {v : V} {P : Ob} {d : PyData} {ds : List PyData} {i j : Int}
theorem ev_cb {r : List V → Hp → VK → Prop} {Ps : List Ob} (h : EvA ta σ H Ps) (hr : ∀ vs H1, Same H H1 → OAll Ps vs H1 → ∀ Q : VK, (∀ v H2, Same H1 H2 → P.p v H2 → Q v H2) → r vs H1 Q) : Ev (tCB r ta) σ H P := fun H1 s Q q =>
  h H1 s _ fun vs H2 s2 p => hr vs H2 (s.trans s2) p Q fun v H3 s3 p3 => q v H3 (s2.trans s3) p3
theorem oall1 {P1 : Ob} {vs : List V} (h : OAll [P1] vs H) : ∃ v1, vs = [v1] ∧ P1.p v1 H := by
  cases h with
  | cons a b => cases b; exact ⟨_, rfl, a⟩
theorem oall2 {P1 P2 : Ob} {vs : List V} (h : OAll [P1, P2] vs H) : ∃ v1 v2, vs = [v1, v2] ∧ P1.p v1 H ∧ P2.p v2 H := by
  cases h with
  | cons a b =>
    obtain ⟨v2, rfl, k⟩ := oall1 b
    exact ⟨_, v2, rfl, a, k⟩
theorem oall3 {P1 P2 P3 : Ob} {vs : List V} (h : OAll [P1, P2, P3] vs H) : ∃ v1 v2 v3, vs = [v1, v2, v3] ∧ P1.p v1 H ∧ P2.p v2 H ∧ P3.p v3 H := by
  cases h with
  | cons a b =>
    obtain ⟨v2, v3, rfl, k⟩ := oall2 b
    exact ⟨_, v2, v3, rfl, a, k⟩
theorem oall4 {P1 P2 P3 P4 : Ob} {vs : List V} (h : OAll [P1, P2, P3, P4] vs H) : ∃ v1 v2 v3 v4, vs = [v1, v2, v3, v4] ∧ P1.p v1 H ∧ P2.p v2 H ∧ P3.p v3 H ∧ P4.p v4 H := by
  cases h with
  | cons a b =>
    obtain ⟨v2, v3, v4, rfl, k⟩ := oall3 b
    exact ⟨_, v2, v3, v4, rfl, a, k⟩
theorem oall5 {P1 P2 P3 P4 P5 : Ob} {vs : List V} (h : OAll [P1, P2, P3, P4, P5] vs H) : ∃ v1 v2 v3 v4 v5, vs = [v1, v2, v3, v4, v5] ∧ P1.p v1 H ∧ P2.p v2 H ∧ P3.p v3 H ∧ P4.p v4 H ∧ P5.p v5 H := by
  cases h with
  | cons a b =>
    obtain ⟨v2, v3, v4, v5, rfl, k⟩ := oall4 b
    exact ⟨_, v2, v3, v4, v5, rfl, a, k⟩
theorem ev_varI {i : Nat} (h : σ[i]? = some (some v)) (p : Im K H v d) : Ev (tVar i) σ H (oI K d) := ev_var h p
theorem ev_varV {i : Nat} (h : σ[i]? = some (some v)) : Ev (tVar i) σ H (oV v) := ev_var h rfl
theorem ev_varL {i : Nat} {a : Addr} {xs : List V} (h : σ[i]? = some (some (.ref a))) (e : H a = some (.lst xs)) (p : ImAll K H xs ds) : Ev (tVar i) σ H (oL K ds) := ev_var h ⟨a, xs, rfl, e, p⟩
theorem ev_varLs {i : Nat} (h : σ[i]? = some (some v)) (p : LsAt K H v ds) : Ev (tVar i) σ H (oL K ds) := ev_var h p
theorem ev_lenQ (h : Ev te σ H (oQ K ds)) : Ev (tCB (rLenS K) (tCons te tNil)) σ H (oI K (.int ds.length)) := ev_cb (eva_cons h eva_nil) fun vs H1 s p Q q => by
  obtain ⟨v, rfl, p1⟩ := oall1 p
  obtain ⟨a, xs, rfl, h1, h2⟩ := SqAt.sq p1
  exact ⟨a, xs, rfl, h1, q _ H1 (Same.refl H1) (by rw [h2.length]; exact Im.int _)⟩
theorem ev_lenT (h : Ev te σ H (oI K (.tuple ds))) : Ev (tCB (rLenS K) (tCons te tNil)) σ H (oI K (.int ds.length)) := ev_lenQ h.qT
theorem ev_lenL (h : Ev te σ H (oL K ds)) : Ev (tCB (rLenS K) (tCons te tNil)) σ H (oI K (.int ds.length)) := ev_lenQ h.qL
theorem ev_listQ (h : Ev te σ H (oQ K ds)) : Ev (tCB (rListOf K) (tCons te tNil)) σ H (oN K H ds) := ev_cb (eva_cons h eva_nil) fun vs H1 s p Q q => by
  obtain ⟨v, rfl, p1⟩ := oall1 p
  obtain ⟨a, xs, rfl, h1, h2⟩ := SqAt.sq p1
  exact ⟨a, xs, rfl, h1, fun l hl => q _ _ (same_new hl) ⟨l, xs, rfl, s.free hl, upd_same, h2.same (same_new hl)⟩⟩
theorem ev_tupleL (h : Ev te σ H (oL K ds)) : Ev (tCB (rTupleOf K) (tCons te tNil)) σ H (oI K (.tuple ds)) := ev_cb (eva_cons h eva_nil) fun vs H1 s p Q q => by
  obtain ⟨v, rfl, a, xs, rfl, h1, h2⟩ := oall1 p
  exact ⟨a, xs, rfl, .inl ⟨SqL.of h1, fun l hl => q _ _ (same_new hl) (Im.tup (SqT.of upd_same) (h2.same (same_new hl)))⟩⟩
theorem ev_abs (h : Ev te σ H (oI K (.int i))) : Ev (tCB rAbs (tCons te tNil)) σ H (oI K (.int i.natAbs)) := ev_cb (eva_cons h eva_nil) fun vs H1 s p Q q => by
  obtain ⟨v, rfl, p1⟩ := oall1 p
  rw [Im.int_inv p1]
  refine ⟨i, rfl, q _ H1 (Same.refl H1) ?_⟩
  have : (if i < 0 then -i else i) = (i.natAbs : Int) := by split <;> omega
  rw [this]
  exact Im.int _
theorem ev_max2 {tb tc : TE} (h : Ev tb σ H (oI K (.int i))) (k : Ev tc σ H (oI K (.int j))) : Ev (tCB rMax2 (tCons tb (tCons tc tNil))) σ H (oI K (.int (max i j))) := ev_cb (eva_cons h (eva_cons k eva_nil)) fun vs H1 s p Q q => by
  obtain ⟨v, w, rfl, p1, p2⟩ := oall2 p
  rw [Im.int_inv p1, Im.int_inv p2]
  refine ⟨i, j, rfl, q _ H1 (Same.refl H1) ?_⟩
  have : (if j > i then j else i) = max i j := by split <;> omega
  rw [this]
  exact Im.int _
theorem ev_int1 {b : Bool} (h : Ev te σ H (oI K (.bool b))) : Ev (tCB rInt1 (tCons te tNil)) σ H (oI K (.int (if b then 1 else 0))) := ev_cb (eva_cons h eva_nil) fun vs H1 s p Q q => by
  obtain ⟨v, rfl, p1⟩ := oall1 p
  rw [Im.bl_inv p1]
  exact .inr ⟨b, rfl, q _ H1 (Same.refl H1) (Im.int _)⟩
/-- what kind a datum is -/
def tyN : PyData → String
  | .none => "NoneType"
  | .bool _ => "bool"
  | .int _ => "int"
  | .str _ => "str"
  | .list _ => "list"
  | .tuple _ => "tuple"
  | .dict _ => "dict"
theorem tyx_of (h : Im K H v d) : TyX K H v (.type (tyN d)) := by
  cases h with
  | non => exact .base .non
  | bl b => exact .base (.bl b)
  | int i => exact .base (.int i)
  | str x => exact .base (.str x)
  | tup q r =>
    rcases q with (q | ⟨o, q⟩) | ⟨o, its, n, hk, hc, _⟩
    · exact .base (.tup q)
    · exact .fTuple q
    · exact .kTuple hk hc
theorem ev_isi {n : String} {b : Bool} (h : Ev te σ H (oI K d)) (e : kitB (tyN d) n = some b) : Ev (tCB (rIsi K) (tCons te (tCons (tC (.ty n)) tNil))) σ H (oI K (.bool b)) :=
  ev_cb (Ps := [oI K d, oV (.ty n)]) (eva_cons h (eva_cons (ev_c (P := oV (.ty n)) rfl) eva_nil)) fun vs H1 s p Q q => by
    obtain ⟨v, w, rfl, p1, p2⟩ := oall2 p
    obtain rfl : w = .ty n := p2
    exact ⟨v, .ty n, .type (tyN d), .type n, b, rfl, .ty n, tyx_of p1, kit_ty e, q _ H1 (Same.refl H1) (Im.bl _)⟩
theorem ev_all {bs : List Bool} (h : Ev te σ H (oL K (bs.map .bool))) : Ev (tCB (rAll K) (tCons te tNil)) σ H (oI K (.bool (bs.all id))) := ev_cb (eva_cons h eva_nil) fun vs H1 s p Q q => by
  obtain ⟨v, rfl, a, xs, rfl, h1, h2⟩ := oall1 p
  obtain rfl := h2.bls
  exact ⟨a, bs, rfl, SqL.of h1, q _ H1 (Same.refl H1) (Im.bl _)⟩
theorem ev_min {ns : List Int} (h : Ev te σ H (oL K (ns.map .int))) (h0 : 0 < ns.length) : Ev (tCB (rMin K) (tCons te tNil)) σ H (oE (fun m : Int => m ∈ ns ∧ ∀ y ∈ ns, m ≤ y) fun m => oI K (.int m)) := ev_cb (eva_cons h eva_nil) fun vs H1 s p Q q => by
  obtain ⟨v, rfl, a, xs, rfl, h1, h2⟩ := oall1 p
  obtain rfl := h2.ints
  exact ⟨a, ns, rfl, SqL.of h1, h0, fun m hm hl => q _ H1 (Same.refl H1) ⟨m, ⟨hm, hl⟩, Im.int _⟩⟩
theorem ev_sortS {ss : List Str} (h : Ev te σ H (oL K (ss.map .str))) (hl : ss.length < 64) : Ev (tCB (rSortedS K) (tCons te tNil)) σ H (oE (fun ys : List Str => ys.Perm ss ∧ sortedS ys = true) fun ys => oN K H (ys.map .str)) := ev_cb (eva_cons h eva_nil) fun vs H1 s p Q q => by
  obtain ⟨v, rfl, a, xs, rfl, h1, h2⟩ := oall1 p
  obtain rfl := h2.strs
  exact ⟨a, ss, rfl, SqL.of h1, hl, fun ys p h3 h4 hp => q _ _ (same_new hp) ⟨ys, ⟨h3, h4⟩, p, _, rfl, s.free hp, upd_same, ImAll.of_strs ys⟩⟩
/-- slices -/
def EvO (to : TO) (σ : L2.St) (H : Hp) (o : Option Int) : Prop := ∀ H1, Same H H1 → ∀ Q : Option Int → Hp → Prop, (∀ H2, Same H1 H2 → Q o H2) → to σ H1 Q
theorem evo_none : EvO tNoPart σ H none := fun H1 _ _ q => q H1 (Same.refl H1)
theorem evo_some (h : Ev te σ H (oI K (.int i))) : EvO (tPart te) σ H (some i) := fun H1 s Q q => h H1 s _ fun v H2 s2 p => ⟨i, Im.int_inv p, q H2 s2⟩
def cutD (ds : List PyData) (lo hi : Option Int) : List PyData := (ds.drop (HT.sIx ds.length 0 lo)).take (HT.sIx ds.length ds.length hi - HT.sIx ds.length 0 lo)
theorem im_cut {xs : List V} (h : ImAll K H xs ds) (lo hi : Option Int) : ImAll K H (cutV xs lo hi) (cutD ds lo hi) := by
  unfold cutV cutD
  rw [h.length]
  exact (h.drop _).take _
theorem ev_sliceL {tl th : TO} {lo hi : Option Int} (h : Ev te σ H (oL K ds)) (hl : EvO tl σ H lo) (hh : EvO th σ H hi) : Ev (tSl (rSlL K) te tl th) σ H (oN K H (cutD ds lo hi)) := fun H1 s Q q =>
  h H1 s _ fun v H2 s2 p2 => hl H2 (s.trans s2) _ fun H3 s3 => hh H3 ((s.trans s2).trans s3) _ fun H4 s4 => by
    obtain ⟨a, xs, rfl, h1, h2⟩ := p2
    refine ⟨a, xs, rfl, SqL.of (s4 _ _ (s3 _ _ h1)), fun p hp => q _ _ (((s2.trans s3).trans s4).trans (same_new hp)) ?_⟩
    exact ⟨p, _, rfl, (((s.trans s2).trans s3).trans s4).free hp, upd_same, im_cut (h2.same ((s3.trans s4).trans (same_new hp))) lo hi⟩
theorem ev_sliceT {tl th : TO} {lo hi : Option Int} (h : Ev te σ H (oI K (.tuple ds))) (hl : EvO tl σ H lo) (hh : EvO th σ H hi) : Ev (tSl (rSlA K) te tl th) σ H (oI K (.tuple (cutD ds lo hi))) := fun H1 s Q q =>
  h H1 s _ fun v H2 s2 p2 => hl H2 (s.trans s2) _ fun H3 s3 => hh H3 ((s.trans s2).trans s3) _ fun H4 s4 => by
    obtain ⟨a, xs, rfl, h1, h2⟩ := Im.tup_inv p2
    have h1' := sqT_keep (tk_same (s3.trans s4)) h1
    have h2' := h2.same (s3.trans s4)
    refine ⟨a, xs, rfl, h1', fun w => q _ _ ((s2.trans s3).trans s4) ?_, fun _ p hp => q _ _ (((s2.trans s3).trans s4).trans (same_new hp)) ?_⟩
    · have e : cutD ds lo hi = ds := by
        rw [h2'.length] at w
        unfold cutD
        rw [w.1, w.2]
        simp
      rw [e]
      exact Im.tup h1' h2'
    · exact Im.tup (SqT.of upd_same) (im_cut (h2'.same (same_new hp)) lo hi)
/-- list + list, tuple + tuple -/
theorem ev_cat {tb : TE} {es : List PyData} (h : Ev te σ H (oL K ds)) (k : Ev tb σ H (oL K es)) (hl : ds.length + es.length ≤ 100000) : Ev (tOp rCat te tb) σ H (oN K H (ds ++ es)) :=
  ev_op h k fun x y H1 s p1 p2 Q q => by
    obtain ⟨a, xs, rfl, h1, h2⟩ := p1
    obtain ⟨b, ys, rfl, k1, k2⟩ := p2
    exact ⟨a, b, xs, ys, rfl, rfl, h1, k1, by rw [h2.length, k2.length]; exact sz_le hl, fun p hp => q _ _ (same_new hp) ⟨p, _, rfl, s.free hp, upd_same, (h2.same (same_new hp)).app (k2.same (same_new hp))⟩⟩
theorem ev_catT {tb : TE} {es : List PyData} (h : Ev te σ H (oI K (.tuple ds))) (k : Ev tb σ H (oI K (.tuple es))) (hl : ds.length + es.length ≤ 100000) : Ev (tOp (rCatA K) te tb) σ H (oI K (.tuple (ds ++ es))) :=
  ev_op h k fun x y H1 s p1 p2 Q q => by
    obtain ⟨a, xs, rfl, h1, h2⟩ := Im.tup_inv p1
    obtain ⟨b, ys, rfl, k1, k2⟩ := Im.tup_inv p2
    have l1 := h2.length
    have l2 := k2.length
    refine ⟨a, b, xs, ys, rfl, rfl, h1, k1, by rw [l1, l2]; exact sz_le hl, fun e => q _ H1 (Same.refl H1) ?_, fun _ e => q _ H1 (Same.refl H1) ?_, fun _ _ p hp => q _ _ (same_new hp) ?_⟩
    · subst e
      cases h2
      exact Im.tup k1 k2
    · subst e
      cases k2
      rw [List.append_nil]
      exact Im.tup h1 h2
    · exact Im.tup (SqT.of upd_same) ((h2.same (same_new hp)).app (k2.same (same_new hp)))
end
section
variable {K : PySem.W.Frag} {σ : L2.St} {H : Hp} {te : TE} {t : TT} {g : TG} {wi : TI} {α : Type}
/-- a comprehension over a row of data -/
theorem ev_lcm {vs : List Nat} (l : List α) (dd : α → PyData) (f : α → Bool) (e : α → PyData) (hi : EvI K wi σ H (l.map dd)) (hz : l.length ≤ 40000)
    (k : ∀ a x H1, a ∈ l → Same H H1 → Im K H1 x (dd a) → g x (wipe σ vs) H1 fun σ2 H2 => wipe σ2 vs = wipe σ vs ∧ Same H1 H2 ∧ EvB t σ2 H2 (f a) ∧ (f a = true → Ev te σ2 H2 (oI K (e a))))
    (gm : ∀ (x : V) (σ : L2.St) (H : Hp) (Q Q' : L2.St → Hp → Prop), (∀ σ' H', Q σ' H' → Q' σ' H') → g x σ H Q → g x σ H Q') {es : List PyData} (hres : (l.filter f).map e = es) : Ev (tLc wi g t te vs) σ H (oN K H es) := by
  have h := ev_lc hi (by rw [List.length_map]; exact hz) (fun i => ((l[i]?).map f).getD false) (fun i => ((l[i]?).map e).getD .none) (vs := vs) (te := te) (t := t) (g := g) (fun i d x H1 hd s p => by
    rw [List.getElem?_map] at hd
    cases q : l[i]? with
    | none => rw [q] at hd; cases hd
    | some a =>
      rw [q] at hd
      obtain rfl : dd a = d := Option.some.inj hd
      exact k a x H1 (List.mem_of_getElem? q) s p) gm
  rw [List.length_map, kept_zip l f e (fun i a q => by rw [q]; rfl) (fun i a q _ => by rw [q]; rfl)] at h
  rw [hres] at h
  exact h
theorem ev_lcmA {vs : List Nat} (l : List α) (dd : α → PyData) (e : α → PyData) (hi : EvI K wi σ H (l.map dd)) (hz : l.length ≤ 40000)
    (k : ∀ a x H1, a ∈ l → Same H H1 → Im K H1 x (dd a) → g x (wipe σ vs) H1 fun σ2 H2 => wipe σ2 vs = wipe σ vs ∧ Same H1 H2 ∧ Ev te σ2 H2 (oI K (e a)))
    (gm : ∀ (x : V) (σ : L2.St) (H : Hp) (Q Q' : L2.St → Hp → Prop), (∀ σ' H', Q σ' H' → Q' σ' H') → g x σ H Q → g x σ H Q') {es : List PyData} (hres : l.map e = es) : Ev (tLc wi g tYes te vs) σ H (oN K H es) := by
  have h := ev_lcm l dd (fun _ => true) e hi hz (t := tYes) (te := te) (g := g) (vs := vs) (fun a x H1 ha s p => gm _ _ _ _ _ (fun σ2 H2 z => ⟨z.1, z.2.1, evb_yes, fun _ => z.2.2⟩) (k a x H1 ha s p)) gm rfl
  rw [List.filter_eq_self.mpr fun _ _ => rfl] at h
  rw [hres] at h
  exact h
theorem ev_lcmL {vs : List Nat} (l : List α) (dd : α → PyData) (f : α → Bool) (e : α → PyData) (hi : EvIL K wi σ H (l.map dd)) (hz : l.length ≤ 40000)
    (k : ∀ a x H1, a ∈ l → Same H H1 → Im K H1 x (dd a) → g x (wipe σ vs) H1 fun σ2 H2 => wipe σ2 vs = wipe σ vs ∧ Same H1 H2 ∧ EvB t σ2 H2 (f a) ∧ (f a = true → Ev te σ2 H2 (oI K (e a))))
    (gm : ∀ (x : V) (σ : L2.St) (H : Hp) (Q Q' : L2.St → Hp → Prop), (∀ σ' H', Q σ' H' → Q' σ' H') → g x σ H Q → g x σ H Q') {es : List PyData} (hres : (l.filter f).map e = es) : Ev (tLc wi g t te vs) σ H (oN K H es) := by
  have h := ev_lcL hi (by rw [List.length_map]; exact hz) (fun i => ((l[i]?).map f).getD false) (fun i => ((l[i]?).map e).getD .none) (vs := vs) (te := te) (t := t) (g := g) (fun i d x H1 hd s p => by
    rw [List.getElem?_map] at hd
    cases q : l[i]? with
    | none => rw [q] at hd; cases hd
    | some a =>
      rw [q] at hd
      obtain rfl : dd a = d := Option.some.inj hd
      exact k a x H1 (List.mem_of_getElem? q) s p) gm
  rw [List.length_map, kept_zip l f e (fun i a q => by rw [q]; rfl) (fun i a q _ => by rw [q]; rfl)] at h
  rw [hres] at h
  exact h
theorem ev_lcmLA {vs : List Nat} (l : List α) (dd : α → PyData) (e : α → PyData) (hi : EvIL K wi σ H (l.map dd)) (hz : l.length ≤ 40000)
    (k : ∀ a x H1, a ∈ l → Same H H1 → Im K H1 x (dd a) → g x (wipe σ vs) H1 fun σ2 H2 => wipe σ2 vs = wipe σ vs ∧ Same H1 H2 ∧ Ev te σ2 H2 (oI K (e a)))
    (gm : ∀ (x : V) (σ : L2.St) (H : Hp) (Q Q' : L2.St → Hp → Prop), (∀ σ' H', Q σ' H' → Q' σ' H') → g x σ H Q → g x σ H Q') {es : List PyData} (hres : l.map e = es) : Ev (tLc wi g tYes te vs) σ H (oN K H es) := by
  have h := ev_lcmL l dd (fun _ => true) e hi hz (t := tYes) (te := te) (g := g) (vs := vs) (fun a x H1 ha s p => gm _ _ _ _ _ (fun σ2 H2 z => ⟨z.1, z.2.1, evb_yes, fun _ => z.2.2⟩) (k a x H1 ha s p)) gm rfl
  rw [List.filter_eq_self.mpr fun _ _ => rfl] at h
  rw [hres] at h
  exact h
theorem imall1 {d1 : PyData} {vs : List V} (h : ImAll K H vs [d1]) : ∃ v1, vs = [v1] ∧ Im K H v1 d1 := by
  cases h with
  | cons a b => cases b; exact ⟨_, rfl, a⟩
theorem imall2 {d1 d2 : PyData} {vs : List V} (h : ImAll K H vs [d1, d2]) : ∃ v1 v2, vs = [v1, v2] ∧ Im K H v1 d1 ∧ Im K H v2 d2 := by
  cases h with
  | cons a b => obtain ⟨v2, rfl, k⟩ := imall1 b; exact ⟨_, v2, rfl, a, k⟩
theorem imall3 {d1 d2 d3 : PyData} {vs : List V} (h : ImAll K H vs [d1, d2, d3]) : ∃ v1 v2 v3, vs = [v1, v2, v3] ∧ Im K H v1 d1 ∧ Im K H v2 d2 ∧ Im K H v3 d3 := by
  cases h with
  | cons a b => obtain ⟨v2, v3, rfl, k⟩ := imall2 b; exact ⟨_, v2, v3, rfl, a, k⟩
theorem imall4 {d1 d2 d3 d4 : PyData} {vs : List V} (h : ImAll K H vs [d1, d2, d3, d4]) : ∃ v1 v2 v3 v4, vs = [v1, v2, v3, v4] ∧ Im K H v1 d1 ∧ Im K H v2 d2 ∧ Im K H v3 d3 ∧ Im K H v4 d4 := by
  cases h with
  | cons a b => obtain ⟨v2, v3, v4, rfl, k⟩ := imall3 b; exact ⟨_, v2, v3, v4, rfl, a, k⟩
theorem imall5 {d1 d2 d3 d4 d5 : PyData} {vs : List V} (h : ImAll K H vs [d1, d2, d3, d4, d5]) : ∃ v1 v2 v3 v4 v5, vs = [v1, v2, v3, v4, v5] ∧ Im K H v1 d1 ∧ Im K H v2 d2 ∧ Im K H v3 d3 ∧ Im K H v4 d4 ∧ Im K H v5 d5 := by
  cases h with
  | cons a b => obtain ⟨v2, v3, v4, v5, rfl, k⟩ := imall4 b; exact ⟨_, v2, v3, v4, v5, rfl, a, k⟩
/-- a whole tuple unpacked into names -/
theorem g_names2 {i1 i2 : Nat} {d1 d2 : PyData} {v : V} {Q : L2.St → Hp → Prop} (h : Im K H v (.tuple [d1, d2])) (k : ∀ v1 v2, Im K H v1 d1 → Im K H v2 d2 → Q ((σ.set i1 (some v1)).set i2 (some v2)) H) : gTup K 2 (gCons (gName i1) (gCons (gName i2) gNil)) v σ H Q :=
  g_tup h rfl fun vs hv => by
    obtain ⟨v1, v2, rfl, a, b⟩ := imall2 hv
    exact ⟨v1, [v2], rfl, v2, [], rfl, rfl, k v1 v2 a b⟩
theorem g_names3 {i1 i2 i3 : Nat} {d1 d2 d3 : PyData} {v : V} {Q : L2.St → Hp → Prop} (h : Im K H v (.tuple [d1, d2, d3])) (k : ∀ v1 v2 v3, Im K H v1 d1 → Im K H v2 d2 → Im K H v3 d3 → Q (((σ.set i1 (some v1)).set i2 (some v2)).set i3 (some v3)) H) : gTup K 3 (gCons (gName i1) (gCons (gName i2) (gCons (gName i3) gNil))) v σ H Q :=
  g_tup h rfl fun vs hv => by
    obtain ⟨v1, v2, v3, rfl, a, b, c⟩ := imall3 hv
    exact ⟨v1, [v2, v3], rfl, v2, [v3], rfl, v3, [], rfl, rfl, k v1 v2 v3 a b c⟩
theorem g_names4 {i1 i2 i3 i4 : Nat} {d1 d2 d3 d4 : PyData} {v : V} {Q : L2.St → Hp → Prop} (h : Im K H v (.tuple [d1, d2, d3, d4])) (k : ∀ v1 v2 v3 v4, Im K H v1 d1 → Im K H v2 d2 → Im K H v3 d3 → Im K H v4 d4 → Q ((((σ.set i1 (some v1)).set i2 (some v2)).set i3 (some v3)).set i4 (some v4)) H) : gTup K 4 (gCons (gName i1) (gCons (gName i2) (gCons (gName i3) (gCons (gName i4) gNil)))) v σ H Q :=
  g_tup h rfl fun vs hv => by
    obtain ⟨v1, v2, v3, v4, rfl, a, b, c, d⟩ := imall4 hv
    exact ⟨v1, [v2, v3, v4], rfl, v2, [v3, v4], rfl, v3, [v4], rfl, v4, [], rfl, rfl, k v1 v2 v3 v4 a b c d⟩
theorem g_names5 {i1 i2 i3 i4 i5 : Nat} {d1 d2 d3 d4 d5 : PyData} {v : V} {Q : L2.St → Hp → Prop} (h : Im K H v (.tuple [d1, d2, d3, d4, d5])) (k : ∀ v1 v2 v3 v4 v5, Im K H v1 d1 → Im K H v2 d2 → Im K H v3 d3 → Im K H v4 d4 → Im K H v5 d5 → Q (((((σ.set i1 (some v1)).set i2 (some v2)).set i3 (some v3)).set i4 (some v4)).set i5 (some v5)) H) : gTup K 5 (gCons (gName i1) (gCons (gName i2) (gCons (gName i3) (gCons (gName i4) (gCons (gName i5) gNil))))) v σ H Q :=
  g_tup h rfl fun vs hv => by
    obtain ⟨v1, v2, v3, v4, v5, rfl, a, b, c, d, e⟩ := imall5 hv
    exact ⟨v1, [v2, v3, v4, v5], rfl, v2, [v3, v4, v5], rfl, v3, [v4, v5], rfl, v4, [v5], rfl, v5, [], rfl, rfl, k v1 v2 v3 v4 v5 a b c d e⟩
end
end Cut
end
section
namespace Cut
open PySem PySem.Spec PyProof.Rows L2
def topS (i : Nat) : Stmt := PySem.Challenge.pw_cutstairs_k23_whole_shapes_and_greater_t.main.body.getD i (.Pass ⟨0, 0, 0, 0⟩)
abbrev s_is_whole : Stmt := topS 6
abbrev N_is_whole : List Str := ["thing"]
theorem sc_is_whole : FnScope N_is_whole ["thing"] (defScope s_is_whole) := ⟨rfl, rfl, rfl, by decide +kernel, rfl, by decide +kernel, by decide +kernel⟩
abbrev s_shared_part : Stmt := topS 7
abbrev N_shared_part : List Str := ["one", "other", "high", "low"]
theorem sc_shared_part : FnScope N_shared_part ["one", "other"] (defScope s_shared_part) := ⟨rfl, rfl, rfl, by decide +kernel, rfl, by decide +kernel, by decide +kernel⟩
abbrev s_is_fraction : Stmt := topS 8
abbrev N_is_fraction : List Str := ["thing"]
theorem sc_is_fraction : FnScope N_is_fraction ["thing"] (defScope s_is_fraction) := ⟨rfl, rfl, rfl, by decide +kernel, rfl, by decide +kernel, by decide +kernel⟩
abbrev s_fraction : Stmt := topS 9
abbrev N_fraction : List Str := ["top", "bottom", "part"]
theorem sc_fraction : FnScope N_fraction ["top", "bottom"] (defScope s_fraction) := ⟨rfl, rfl, rfl, by decide +kernel, rfl, by decide +kernel, by decide +kernel⟩
abbrev s_plus : Stmt := topS 10
abbrev N_plus : List Str := ["a", "b"]
theorem sc_plus : FnScope N_plus ["a", "b"] (defScope s_plus) := ⟨rfl, rfl, rfl, by decide +kernel, rfl, by decide +kernel, by decide +kernel⟩
abbrev s_minus : Stmt := topS 11
abbrev N_minus : List Str := ["a", "b"]
theorem sc_minus : FnScope N_minus ["a", "b"] (defScope s_minus) := ⟨rfl, rfl, rfl, by decide +kernel, rfl, by decide +kernel, by decide +kernel⟩
abbrev s_times : Stmt := topS 12
abbrev N_times : List Str := ["a", "b"]
theorem sc_times : FnScope N_times ["a", "b"] (defScope s_times) := ⟨rfl, rfl, rfl, by decide +kernel, rfl, by decide +kernel, by decide +kernel⟩
abbrev s_below : Stmt := topS 13
abbrev N_below : List Str := ["a", "b"]
theorem sc_below : FnScope N_below ["a", "b"] (defScope s_below) := ⟨rfl, rfl, rfl, by decide +kernel, rfl, by decide +kernel, by decide +kernel⟩
abbrev s_names_of : Stmt := topS 16
abbrev N_names_of : List Str := ["web", "place"]
theorem sc_names_of : FnScope N_names_of ["web"] (defScope s_names_of) := ⟨rfl, rfl, rfl, by decide +kernel, rfl, by decide +kernel, by decide +kernel⟩
abbrev s_is_price : Stmt := topS 17
abbrev N_is_price : List Str := ["web", "thing"]
theorem sc_is_price : FnScope N_is_price ["web", "thing"] (defScope s_is_price) := ⟨rfl, rfl, rfl, by decide +kernel, rfl, by decide +kernel, by decide +kernel⟩
abbrev s_check_price : Stmt := topS 18
abbrev N_check_price : List Str := ["web", "price"]
theorem sc_check_price : FnScope N_check_price ["web", "price"] (defScope s_check_price) := ⟨rfl, rfl, rfl, by decide +kernel, rfl, by decide +kernel, by decide +kernel⟩
abbrev s_sizes_at : Stmt := topS 19
abbrev N_sizes_at : List Str := ["web", "price", "into", "out", "name", "one", "grows", "other", "falls", "size"]
theorem sc_sizes_at : FnScope N_sizes_at ["web", "price"] (defScope s_sizes_at) := ⟨rfl, rfl, rfl, by decide +kernel, rfl, by decide +kernel, by decide +kernel⟩
abbrev s_shared_bottom : Stmt := topS 22
abbrev N_shared_bottom : List Str := ["sizes", "found", "size"]
theorem sc_shared_bottom : FnScope N_shared_bottom ["sizes"] (defScope s_shared_bottom) := ⟨rfl, rfl, rfl, by decide +kernel, rfl, by decide +kernel, by decide +kernel⟩
abbrev s_rests_of : Stmt := topS 23
abbrev N_rests_of : List Str := ["arcs", "wholes", "goes", "found", "number", "one", "other", "size"]
theorem sc_rests_of : FnScope N_rests_of ["arcs", "wholes", "goes"] (defScope s_rests_of) := ⟨rfl, rfl, rfl, by decide +kernel, rfl, by decide +kernel, by decide +kernel⟩
abbrev s_road : Stmt := topS 24
abbrev N_road : List Str := ["rests", "start", "end", "came", "waiting", "at", "step", "found", "here"]
theorem sc_road : FnScope N_road ["rests", "start", "end"] (defScope s_road) := ⟨rfl, rfl, rfl, by decide +kernel, rfl, by decide +kernel, by decide +kernel⟩
abbrev s_greatest : Stmt := topS 25
abbrev N_greatest : List Str := ["arcs", "start", "end", "bottom", "one", "other", "size", "wholes", "goes", "arc", "steps", "more", "knot", "number", "along", "rest", "many"]
theorem sc_greatest : FnScope N_greatest ["arcs", "start", "end"] (defScope s_greatest) := ⟨rfl, rfl, rfl, by decide +kernel, rfl, by decide +kernel, by decide +kernel⟩
abbrev s_arcs_of : Stmt := topS 26
abbrev N_arcs_of : List Str := ["web", "sizes", "into", "through", "out", "names", "found", "k", "tie", "size"]
theorem sc_arcs_of : FnScope N_arcs_of ["web", "sizes"] (defScope s_arcs_of) := ⟨rfl, rfl, rfl, by decide +kernel, rfl, by decide +kernel, by decide +kernel⟩
abbrev s_stream_in : Stmt := topS 27
abbrev N_stream_in : List Str := ["web", "sizes", "goes", "many", "ties"]
theorem sc_stream_in : FnScope N_stream_in ["web", "sizes"] (defScope s_stream_in) := ⟨rfl, rfl, rfl, by decide +kernel, rfl, by decide +kernel, by decide +kernel⟩
abbrev s_stream_at : Stmt := topS 28
abbrev N_stream_at : List Str := ["web", "price"]
theorem sc_stream_at : FnScope N_stream_at ["web", "price"] (defScope s_stream_at) := ⟨rfl, rfl, rfl, by decide +kernel, rfl, by decide +kernel, by decide +kernel⟩
abbrev s_stream_worth : Stmt := topS 29
abbrev N_stream_worth : List Str := ["stream", "found", "part"]
theorem sc_stream_worth : FnScope N_stream_worth ["stream"] (defScope s_stream_worth) := ⟨rfl, rfl, rfl, by decide +kernel, rfl, by decide +kernel, by decide +kernel⟩
abbrev s_are_parts : Stmt := topS 30
abbrev N_are_parts : List Str := ["thing", "sizes", "part", "size"]
theorem sc_are_parts : FnScope N_are_parts ["thing", "sizes"] (defScope s_are_parts) := ⟨rfl, rfl, rfl, by decide +kernel, rfl, by decide +kernel, by decide +kernel⟩
abbrev s_is_kept : Stmt := topS 31
abbrev N_is_kept : List Str := ["web", "stream", "k", "name", "comes", "leaves", "tie", "part"]
theorem sc_is_kept : FnScope N_is_kept ["web", "stream"] (defScope s_is_kept) := ⟨rfl, rfl, rfl, by decide +kernel, rfl, by decide +kernel, by decide +kernel⟩
abbrev s_is_stream : Stmt := topS 32
abbrev N_is_stream : List Str := ["web", "price", "thing", "sizes", "part", "size"]
theorem sc_is_stream : FnScope N_is_stream ["web", "price", "thing"] (defScope s_is_stream) := ⟨rfl, rfl, rfl, by decide +kernel, rfl, by decide +kernel, by decide +kernel⟩
abbrev s_check_stream : Stmt := topS 33
abbrev N_check_stream : List Str := ["web", "price", "thing"]
theorem sc_check_stream : FnScope N_check_stream ["web", "price", "thing"] (defScope s_check_stream) := ⟨rfl, rfl, rfl, by decide +kernel, rfl, by decide +kernel, by decide +kernel⟩
abbrev s_ways_between : Stmt := topS 34
abbrev N_ways_between : List Str := ["web", "sizes", "stream", "found", "tie", "size", "part"]
theorem sc_ways_between : FnScope N_ways_between ["web", "sizes", "stream"] (defScope s_ways_between) := ⟨rfl, rfl, rfl, by decide +kernel, rfl, by decide +kernel, by decide +kernel⟩
abbrev s_reached_by : Stmt := topS 35
abbrev N_reached_by : List Str := ["starts", "ways", "found", "at", "one", "other"]
theorem sc_reached_by : FnScope N_reached_by ["starts", "ways"] (defScope s_reached_by) := ⟨rfl, rfl, rfl, by decide +kernel, rfl, by decide +kernel, by decide +kernel⟩
abbrev s_unlike_ones : Stmt := topS 36
abbrev N_unlike_ones : List Str := ["names", "found", "name"]
theorem sc_unlike_ones : FnScope N_unlike_ones ["names"] (defScope s_unlike_ones) := ⟨rfl, rfl, rfl, by decide +kernel, rfl, by decide +kernel, by decide +kernel⟩
abbrev s_led_to_in : Stmt := topS 37
abbrev N_led_to_in : List Str := ["web", "sizes", "stream", "starts", "k", "name"]
theorem sc_led_to_in : FnScope N_led_to_in ["web", "sizes", "stream"] (defScope s_led_to_in) := ⟨rfl, rfl, rfl, by decide +kernel, rfl, by decide +kernel, by decide +kernel⟩
abbrev s_led_from_in : Stmt := topS 38
abbrev N_led_from_in : List Str := ["web", "sizes", "stream", "starts", "k", "name", "one", "other"]
theorem sc_led_from_in : FnScope N_led_from_in ["web", "sizes", "stream"] (defScope s_led_from_in) := ⟨rfl, rfl, rfl, by decide +kernel, rfl, by decide +kernel, by decide +kernel⟩
abbrev s_led_to : Stmt := topS 39
abbrev N_led_to : List Str := ["web", "price", "stream"]
theorem sc_led_to : FnScope N_led_to ["web", "price", "stream"] (defScope s_led_to) := ⟨rfl, rfl, rfl, by decide +kernel, rfl, by decide +kernel, by decide +kernel⟩
abbrev s_led_from : Stmt := topS 40
abbrev N_led_from : List Str := ["web", "price", "stream"]
theorem sc_led_from : FnScope N_led_from ["web", "price", "stream"] (defScope s_led_from) := ⟨rfl, rfl, rfl, by decide +kernel, rfl, by decide +kernel, by decide +kernel⟩
abbrev s_ways_left : Stmt := topS 42
abbrev N_ways_left : List Str := ["web", "price", "stream", "found", "name", "tie", "size", "much"]
theorem sc_ways_left : FnScope N_ways_left ["web", "price", "stream"] (defScope s_ways_left) := ⟨rfl, rfl, rfl, by decide +kernel, rfl, by decide +kernel, by decide +kernel⟩
abbrev s_reached : Stmt := topS 43
abbrev N_reached : List Str := ["ways", "name", "found", "at", "there"]
theorem sc_reached : FnScope N_reached ["ways", "name"] (defScope s_reached) := ⟨rfl, rfl, rfl, by decide +kernel, rfl, by decide +kernel, by decide +kernel⟩
abbrev s_shape_at : Stmt := topS 44
abbrev N_shape_at : List Str := ["web", "price", "stream", "low", "leading", "ways", "between", "name", "led", "blocks", "block", "other", "arrows", "one"]
theorem sc_shape_at : FnScope N_shape_at ["web", "price"] (defScope s_shape_at) := ⟨rfl, rfl, rfl, by decide +kernel, rfl, by decide +kernel, by decide +kernel⟩
abbrev s_closed_sets : Stmt := topS 45
abbrev N_closed_sets : List Str := ["shape", "found", "number", "some", "one", "other"]
theorem sc_closed_sets : FnScope N_closed_sets ["shape"] (defScope s_closed_sets) := ⟨rfl, rfl, rfl, by decide +kernel, rfl, by decide +kernel, by decide +kernel⟩
abbrev s_many_cuts : Stmt := topS 46
abbrev N_many_cuts : List Str := ["web", "price"]
theorem sc_many_cuts : FnScope N_many_cuts ["web", "price"] (defScope s_many_cuts) := ⟨rfl, rfl, rfl, by decide +kernel, rfl, by decide +kernel, by decide +kernel⟩
abbrev s_cuts_at : Stmt := topS 47
abbrev N_cuts_at : List Str := ["web", "price", "shape", "found", "some", "names", "number"]
theorem sc_cuts_at : FnScope N_cuts_at ["web", "price"] (defScope s_cuts_at) := ⟨rfl, rfl, rfl, by decide +kernel, rfl, by decide +kernel, by decide +kernel⟩
abbrev s_least_told : Stmt := topS 49
abbrev N_least_told : List Str := ["web", "price", "sizes", "stream", "leading", "most", "name"]
theorem sc_least_told : FnScope N_least_told ["web", "price"] (defScope s_least_told) := ⟨rfl, rfl, rfl, by decide +kernel, rfl, by decide +kernel, by decide +kernel⟩
abbrev s_least_worth : Stmt := topS 50
abbrev N_least_worth : List Str := ["web", "price"]
theorem sc_least_worth : FnScope N_least_worth ["web", "price"] (defScope s_least_worth) := ⟨rfl, rfl, rfl, by decide +kernel, rfl, by decide +kernel, by decide +kernel⟩
abbrev s_least_cut : Stmt := topS 51
abbrev N_least_cut : List Str := ["web", "price"]
theorem sc_least_cut : FnScope N_least_cut ["web", "price"] (defScope s_least_cut) := ⟨rfl, rfl, rfl, by decide +kernel, rfl, by decide +kernel, by decide +kernel⟩
abbrev s_most_cut : Stmt := topS 52
abbrev N_most_cut : List Str := ["web", "price"]
theorem sc_most_cut : FnScope N_most_cut ["web", "price"] (defScope s_most_cut) := ⟨rfl, rfl, rfl, by decide +kernel, rfl, by decide +kernel, by decide +kernel⟩
abbrev s__law_cell : Stmt := topS 54
abbrev N__law_cell : List Str := ["_law_script", "_law_k", "_law_state", "_law_cell_here"]
theorem sc__law_cell : FnScope N__law_cell ["_law_script", "_law_k"] (defScope s__law_cell) := ⟨rfl, rfl, rfl, by decide +kernel, rfl, by decide +kernel, by decide +kernel⟩
abbrev s__law_numbers : Stmt := topS 55
abbrev N__law_numbers : List Str := ["_law_cell_here", "_law_many", "_law_found", "_law_state", "_law_digits", "_law_k"]
theorem sc__law_numbers : FnScope N__law_numbers ["_law_cell_here", "_law_many"] (defScope s__law_numbers) := ⟨rfl, rfl, rfl, by decide +kernel, rfl, by decide +kernel, by decide +kernel⟩
abbrev s__law_names : Stmt := topS 56
abbrev N__law_names : List Str := ["_law_xs", "_law_many", "_law_letters", "_law_found", "_law_k", "_law_name", "_law_middle"]
theorem sc__law_names : FnScope N__law_names ["_law_xs", "_law_many"] (defScope s__law_names) := ⟨rfl, rfl, rfl, by decide +kernel, rfl, by decide +kernel, by decide +kernel⟩
abbrev s__law_place : Stmt := topS 57
abbrev N__law_place : List Str := ["_law_name", "_law_xs", "_law_top", "_law_wide", "_law_most", "_law_a", "_law_b", "_law_d", "_law_c"]
theorem sc__law_place : FnScope N__law_place ["_law_name", "_law_xs", "_law_top", "_law_wide"] (defScope s__law_place) := ⟨rfl, rfl, rfl, by decide +kernel, rfl, by decide +kernel, by decide +kernel⟩
abbrev s__law_ties : Stmt := topS 58
abbrev N__law_ties : List Str := ["_law_names_here", "_law_script", "_law_at", "_law_many", "_law_wide", "_law_found", "_law_k", "_law_xs", "_law_one", "_law_other", "_law_size", "_law_pair"]
theorem sc__law_ties : FnScope N__law_ties ["_law_names_here", "_law_script", "_law_at", "_law_many", "_law_wide"] (defScope s__law_ties) := ⟨rfl, rfl, rfl, by decide +kernel, rfl, by decide +kernel, by decide +kernel⟩
abbrev s__law_web : Stmt := topS 59
abbrev N__law_web : List Str := ["_law_script", "_law_at", "_law_most", "_law_head", "_law_top", "_law_many", "_law_wide", "_law_names_here", "_law_places", "_law_k", "_law_ties_here"]
theorem sc__law_web : FnScope N__law_web ["_law_script", "_law_at", "_law_most"] (defScope s__law_web) := ⟨rfl, rfl, rfl, by decide +kernel, rfl, by decide +kernel, by decide +kernel⟩
abbrev s__law_low : Stmt := topS 60
abbrev N__law_low : List Str := ["_law_top", "_law_bottom", "_law_high", "_law_low_here"]
theorem sc__law_low : FnScope N__law_low ["_law_top", "_law_bottom"] (defScope s__law_low) := ⟨rfl, rfl, rfl, by decide +kernel, rfl, by decide +kernel, by decide +kernel⟩
abbrev s__law_price : Stmt := topS 61
abbrev N__law_price : List Str := ["_law_web_here", "_law_x", "_law_y", "_law_bottom"]
theorem sc__law_price : FnScope N__law_price ["_law_web_here", "_law_x", "_law_y"] (defScope s__law_price) := ⟨rfl, rfl, rfl, by decide +kernel, rfl, by decide +kernel, by decide +kernel⟩
abbrev s__law_drawn : Stmt := topS 62
abbrev N__law_drawn : List Str := ["_law_script", "_law_head", "_law_web_here", "_law_places", "_law_name", "_law_a", "_law_b", "_law_c", "_law_d", "_law_one", "_law_other", "_law_size"]
theorem sc__law_drawn : FnScope N__law_drawn ["_law_script"] (defScope s__law_drawn) := ⟨rfl, rfl, rfl, by decide +kernel, rfl, by decide +kernel, by decide +kernel⟩
abbrev s__law_by_shape : Stmt := topS 63
abbrev N__law_by_shape : List Str := ["_law_shape", "_law_low_here", "_law_blocks", "_law_arrows", "_law_found", "_law_mask", "_law_some", "_law_k", "_law_i", "_law_j", "_law_names_here"]
theorem sc__law_by_shape : FnScope N__law_by_shape ["_law_shape"] (defScope s__law_by_shape) := ⟨rfl, rfl, rfl, by decide +kernel, rfl, by decide +kernel, by decide +kernel⟩
abbrev s__law_shape_right : Stmt := topS 64
abbrev N__law_shape_right : List Str := ["_law_web_here", "_law_shape", "_law_cuts", "_law_low_here", "_law_blocks", "_law_arrows", "_law_every", "_law_block", "_law_i", "_law_j", "_law_here", "_law_k"]
theorem sc__law_shape_right : FnScope N__law_shape_right ["_law_web_here", "_law_shape", "_law_cuts"] (defScope s__law_shape_right) := ⟨rfl, rfl, rfl, by decide +kernel, rfl, by decide +kernel, by decide +kernel⟩
abbrev s__law_greater : Stmt := topS 65
abbrev N__law_greater : List Str := ["_law_web_here", "_law_name", "_law_which", "_law_places", "_law_place_here"]
theorem sc__law_greater : FnScope N__law_greater ["_law_web_here", "_law_name", "_law_which"] (defScope s__law_greater) := ⟨rfl, rfl, rfl, by decide +kernel, rfl, by decide +kernel, by decide +kernel⟩
abbrev s__law_greater_right : Stmt := topS 66
abbrev N__law_greater_right : List Str := ["_law_web_here", "_law_price_here", "_law_cuts", "_law_worth", "_law_low_here", "_law_high", "_law_name", "_law_a", "_law_b", "_law_c", "_law_d", "_law_more", "_law_due", "_law_cut"]
theorem sc__law_greater_right : FnScope N__law_greater_right ["_law_web_here", "_law_price_here", "_law_cuts"] (defScope s__law_greater_right) := ⟨rfl, rfl, rfl, by decide +kernel, rfl, by decide +kernel, by decide +kernel⟩
abbrev s_law : Stmt := topS 67
abbrev N_law : List Str := ["_law_script", "_law_web_here", "_law_xs", "_law_prices", "_law_price_here", "_law_cuts"]
theorem sc_law : FnScope N_law ["_law_script"] (defScope s_law) := ⟨rfl, rfl, rfl, by decide +kernel, rfl, by decide +kernel, by decide +kernel⟩
/-- what of the text the proofs lean on -/
structure Tx (K : PySem.W.Frag) (mg : Str → Option Value) : Prop where
  d_is_whole : Def K mg "is_whole" s_is_whole ["thing"]
  d_shared_part : Def K mg "shared_part" s_shared_part ["one", "other"]
  d_is_fraction : Def K mg "is_fraction" s_is_fraction ["thing"]
  d_fraction : Def K mg "fraction" s_fraction ["top", "bottom"]
  d_plus : Def K mg "plus" s_plus ["a", "b"]
  d_minus : Def K mg "minus" s_minus ["a", "b"]
  d_times : Def K mg "times" s_times ["a", "b"]
  d_below : Def K mg "below" s_below ["a", "b"]
  d_names_of : Def K mg "names_of" s_names_of ["web"]
  d_is_price : Def K mg "is_price" s_is_price ["web", "thing"]
  d_check_price : Def K mg "check_price" s_check_price ["web", "price"]
  d_sizes_at : Def K mg "sizes_at" s_sizes_at ["web", "price"]
  d_shared_bottom : Def K mg "shared_bottom" s_shared_bottom ["sizes"]
  d_rests_of : Def K mg "rests_of" s_rests_of ["arcs", "wholes", "goes"]
  d_road : Def K mg "road" s_road ["rests", "start", "end"]
  d_greatest : Def K mg "greatest" s_greatest ["arcs", "start", "end"]
  d_arcs_of : Def K mg "arcs_of" s_arcs_of ["web", "sizes"]
  d_stream_in : Def K mg "stream_in" s_stream_in ["web", "sizes"]
  d_stream_at : Def K mg "stream_at" s_stream_at ["web", "price"]
  d_stream_worth : Def K mg "stream_worth" s_stream_worth ["stream"]
  d_are_parts : Def K mg "are_parts" s_are_parts ["thing", "sizes"]
  d_is_kept : Def K mg "is_kept" s_is_kept ["web", "stream"]
  d_is_stream : Def K mg "is_stream" s_is_stream ["web", "price", "thing"]
  d_check_stream : Def K mg "check_stream" s_check_stream ["web", "price", "thing"]
  d_ways_between : Def K mg "ways_between" s_ways_between ["web", "sizes", "stream"]
  d_reached_by : Def K mg "reached_by" s_reached_by ["starts", "ways"]
  d_unlike_ones : Def K mg "unlike_ones" s_unlike_ones ["names"]
  d_led_to_in : Def K mg "led_to_in" s_led_to_in ["web", "sizes", "stream"]
  d_led_from_in : Def K mg "led_from_in" s_led_from_in ["web", "sizes", "stream"]
  d_led_to : Def K mg "led_to" s_led_to ["web", "price", "stream"]
  d_led_from : Def K mg "led_from" s_led_from ["web", "price", "stream"]
  d_ways_left : Def K mg "ways_left" s_ways_left ["web", "price", "stream"]
  d_reached : Def K mg "reached" s_reached ["ways", "name"]
  d_shape_at : Def K mg "shape_at" s_shape_at ["web", "price"]
  d_closed_sets : Def K mg "closed_sets" s_closed_sets ["shape"]
  d_many_cuts : Def K mg "many_cuts" s_many_cuts ["web", "price"]
  d_cuts_at : Def K mg "cuts_at" s_cuts_at ["web", "price"]
  d_least_told : Def K mg "least_told" s_least_told ["web", "price"]
  d_least_worth : Def K mg "least_worth" s_least_worth ["web", "price"]
  d_least_cut : Def K mg "least_cut" s_least_cut ["web", "price"]
  d_most_cut : Def K mg "most_cut" s_most_cut ["web", "price"]
  d__law_cell : Def K mg "_law_cell" s__law_cell ["_law_script", "_law_k"]
  d__law_numbers : Def K mg "_law_numbers" s__law_numbers ["_law_cell_here", "_law_many"]
  d__law_names : Def K mg "_law_names" s__law_names ["_law_xs", "_law_many"]
  d__law_place : Def K mg "_law_place" s__law_place ["_law_name", "_law_xs", "_law_top", "_law_wide"]
  d__law_ties : Def K mg "_law_ties" s__law_ties ["_law_names_here", "_law_script", "_law_at", "_law_many", "_law_wide"]
  d__law_web : Def K mg "_law_web" s__law_web ["_law_script", "_law_at", "_law_most"]
  d__law_low : Def K mg "_law_low" s__law_low ["_law_top", "_law_bottom"]
  d__law_price : Def K mg "_law_price" s__law_price ["_law_web_here", "_law_x", "_law_y"]
  d__law_drawn : Def K mg "_law_drawn" s__law_drawn ["_law_script"]
  d__law_by_shape : Def K mg "_law_by_shape" s__law_by_shape ["_law_shape"]
  d__law_shape_right : Def K mg "_law_shape_right" s__law_shape_right ["_law_web_here", "_law_shape", "_law_cuts"]
  d__law_greater : Def K mg "_law_greater" s__law_greater ["_law_web_here", "_law_name", "_law_which"]
  d__law_greater_right : Def K mg "_law_greater_right" s__law_greater_right ["_law_web_here", "_law_price_here", "_law_cuts"]
  d_law : Def K mg "law" s_law ["_law_script"]
  m_isinstance : mg "isinstance" = none
  m_int : mg "int" = none
  m_bool : mg "bool" = none
  m_tuple : mg "tuple" = none
  m_abs : mg "abs" = none
  m_len : mg "len" = none
  m_range : mg "range" = none
  m_enumerate : mg "enumerate" = none
  m_zip : mg "zip" = none
  m_list : mg "list" = none
  m_dict : mg "dict" = none
  m_sorted : mg "sorted" = none
  m_min : mg "min" = none
  m_max : mg "max" = none
  m_all : mg "all" = none
  m_set : mg "set" = none
  c_NOUGHT_webs : ∃ a, mg "NOUGHT_webs" = some (.ref a) ∧ ∀ H, SqT K H a [.int 0, .int 1]
  c_NOUGHT_streams : ∃ a, mg "NOUGHT_streams" = some (.ref a) ∧ ∀ H, SqT K H a [.int 0, .int 1]
end Cut
end
section
namespace Cut
open PySem PySem.Spec PyProof.Rows L2
local macro_rules | `(tactic| walk_at "nk") => `(tactic| first | dsimp only [cxOf, Cx.nox, Cx.wish, Cx.blk] | skip)
local macro_rules | `(tactic| walk_at "im") => `(tactic| first
  | assumption
  | exact Im.int _ | exact Im.str _ | exact Im.bl _ | exact Im.non
  | (refine Im.same (by assumption) ?_; walk_at "im"))
local macro_rules | `(tactic| walk_at "side") => `(tactic| first | assumption | rfl | omega)
local macro_rules | `(tactic| walk_at "ev") => `(tactic| first
  | (with_reducible exact ev_int) | (with_reducible exact ev_str) | (with_reducible exact ev_bl) | (with_reducible exact ev_non)
  | ((with_reducible apply ev_varI); rfl; walk_at "im")
  | ((with_reducible apply ev_ixT); walk_at "ev"; walk_at "ev"; walk_at "side")
  | ((with_reducible apply ev_add); walk_at "ev"; walk_at "ev")
  | ((with_reducible apply ev_sub); walk_at "ev"; walk_at "ev")
  | ((with_reducible apply ev_mul); walk_at "ev"; walk_at "ev"; walk_at "side")
  | ((with_reducible apply ev_div); walk_at "ev"; walk_at "ev"; walk_at "side")
  | ((with_reducible apply ev_mod); walk_at "ev"; walk_at "ev"; walk_at "side")
  | ((with_reducible apply ev_eqI); walk_at "ev"; walk_at "ev")
  | ((with_reducible apply ev_neI); walk_at "ev"; walk_at "ev")
  | ((with_reducible apply ev_eqS); walk_at "ev"; walk_at "ev")
  | ((with_reducible apply ev_neS); walk_at "ev"; walk_at "ev")
  | ((with_reducible apply ev_cmp); walk_at "ev"; walk_at "ev")
  | ((with_reducible apply ev_tup1); walk_at "ev")
  | ((with_reducible apply ev_tup2); walk_at "ev"; walk_at "ev")
  | ((with_reducible apply ev_tup3); walk_at "ev"; walk_at "ev"; walk_at "ev")
  | ((with_reducible apply ev_tup4); walk_at "ev"; walk_at "ev"; walk_at "ev"; walk_at "ev")
  | ((with_reducible apply ev_tup5); walk_at "ev"; walk_at "ev"; walk_at "ev"; walk_at "ev"; walk_at "ev")
  | ((with_reducible apply ev_lenT); walk_at "ev")
  | ((with_reducible apply ev_abs); walk_at "ev")
  | ((with_reducible apply ev_tupleL); walk_at "ev")
  | ((with_reducible apply ev_notV); walk_at "ev")
  | assumption)

section
variable {P : Program} {w : World} {K : PySem.W.Frag} {mg : Str → Option Value} {base : Heap}
abbrev frD (x : Fr) : PyData := .tuple [.int x.1, .int x.2]
theorem kit_ii : kitB "int" "int" = some true := by decide +kernel
theorem kit_ib : kitB "int" "bool" = some false := by decide +kernel
theorem kit_tt : kitB "tuple" "tuple" = some true := by decide +kernel
def sp_is_whole (K : PySem.W.Frag) : Sp := spD (α := Int) (fun i => [oI K (.int i)]) (fun _ => True) fun _ => oI K (.bool true)
theorem at_is_whole (T : Tx K mg) : At P w K mg base 1 "is_whole" ["thing"] (sp_is_whole K) := by
  refine at_of T.d_is_whole sc_is_whole (fun _ => rfl) fun f cdv A outer s H vs Q E a hr hp ha q => ?_
  refine ⟨_, (pss_one (ps_ret (pe_and (pe_callB (r := rIsi K) call_isi (by rfl) T.m_isinstance (by decide +kernel) (pa_cons (pv 0) (pa_cons (pe_bltn (v := .ty "int") (by rfl) T.m_int (by decide +kernel) rfl) pa_nil))) (pe_one (pe_not (pe_callB (r := rIsi K) call_isi (by rfl) T.m_isinstance (by decide +kernel) (pa_cons (pv 0) (pa_cons (pe_bltn (v := .ty "bool") (by rfl) T.m_bool (by decide +kernel) rfl) pa_nil)))))))), ?_⟩
  walk_at "nk"
  obtain ⟨v, rfl, h1⟩ := oall1 ha
  exact s_ret (ev_andV (ev_isi (ev_varI rfl h1) kit_ii) fun _ => ev_notV (ev_isi (ev_varI rfl h1) kit_ib)) q
section
variable {σ : L2.St} {H : Hp} {ta tb tc td te : TE}
theorem ev_is_whole {i : Int} (h : Ev ta σ H (oI K (.int i))) : Ev (tCall (sp_is_whole K) [] E0 (tCons ta tNil)) σ H (oI K (.bool true)) := ev_call i (eva_cons h eva_nil) trivial
end
def sp_shared_part (K : PySem.W.Frag) : Sp := spD (α := Int × Int) (fun a => [oI K (.int a.1), oI K (.int a.2)]) (fun _ => True) fun a => oI K (.int (Int.gcd a.1 a.2 : Nat))
theorem at_shared_part (T : Tx K mg) : At P w K mg base 1 "shared_part" ["one", "other"] (sp_shared_part K) := by
  refine at_of T.d_shared_part sc_shared_part (fun _ => rfl) fun f cdv A outer s H vs Q E a hr hp ha q => ?_
  refine ⟨_, (pss_cons (ps_par (i := 2) (j := 3) rfl sc_shared_part.nd rfl rfl (by decide) rfl rfl (pa_cons (pe_callB cr_abs (by rfl) T.m_abs (by decide +kernel) (pa_cons (pv 0) pa_nil)) (pa_cons (pe_callB cr_abs (by rfl) T.m_abs (by decide +kernel) (pa_cons (pv 1) pa_nil)) pa_nil)) rfl)
 (pss_cons (ps_while PassesOwn.never (pt_cmpR op_gt (pv 3) pe_int (nomark _)) (pss_one (ps_par (i := 2) (j := 3) rfl sc_shared_part.nd rfl rfl (by decide) rfl rfl (pa_cons (pv 3) (pa_cons (pe_op op_mod (pv 2) (pv 3)) pa_nil)) rfl)))
 (pss_one (ps_ret (pv 2))))), ?_⟩
  walk_at "nk"
  -- slots: 0 one 1 other 2 high 3 low
  obtain ⟨v1, v2, rfl, h1, h2⟩ := oall2 ha
  refine q_par (eva_cons (ev_abs (ev_varI rfl h1)) (eva_cons (ev_abs (ev_varI rfl h2)) eva_nil)) fun u1 u2 H1 s1 p1 p2 => ?_
  refine q_while (fun m σ' H' => ∃ h l : Nat, σ' = [some v1, some v2, some (.int h), some (.int l)] ∧ Same H H' ∧ Nat.gcd h l = Int.gcd a.1 a.2 ∧ l = m) _ ⟨a.1.natAbs, a.2.natAbs, ?_, s1, rfl, rfl⟩ fun m σ' H' hw => ?_
  · rw [Im.int_inv p1, Im.int_inv p2]
    rfl
  · obtain ⟨h, l, rfl, sm, hg, rfl⟩ := hw
    refine ⟨decide ((0 : Int) < l), evb_test (ev_cmp (K := K) (ev_varI rfl (Im.int _)) ev_int), fun hb H2 s2 => ?_, fun hb H2 s2 => ?_⟩
    · have hl : (0 : Int) < l := of_decide_eq_true hb
      refine s_par (eva_cons (ev_varI (K := K) rfl (Im.int _)) (eva_cons (ev_mod (K := K) (ev_varI rfl (Im.int _)) (ev_varI rfl (Im.int _)) hl) eva_nil)) fun w1 w2 H3 s3 p3 p4 => ?_
      refine ⟨h % l, Nat.mod_lt _ (by omega), l, h % l, ?_, (sm.trans s2).trans s3, ?_, rfl⟩
      · rw [Im.int_inv p3, Im.int_inv p4, ← Int.natCast_emod]
        rfl
      · rw [← hg, Nat.gcd_comm l, ← Nat.gcd_rec, Nat.gcd_comm]
    · have hl : ¬ (0 : Int) < l := of_decide_eq_false hb
      have hl0 : l = 0 := by omega
      subst hl0
      rw [Nat.gcd_zero_right] at hg
      refine s_ret (ev_varI (K := K) rfl (Im.int _)) fun v H3 s3 p => q v H3 ((sm.trans s2).trans s3) ?_
      rw [← hg]
      exact p
theorem ev_shared_part {σ : L2.St} {H : Hp} {ta tb : TE} {i j : Int} (h : Ev ta σ H (oI K (.int i))) (k : Ev tb σ H (oI K (.int j))) : Ev (tCall (sp_shared_part K) [] E0 (tCons ta (tCons tb tNil))) σ H (oI K (.int (Int.gcd i j : Nat))) := ev_call (i, j) (eva_cons h (eva_cons k eva_nil)) trivial
def sp_is_fraction (K : PySem.W.Frag) : Sp := spD (α := Fr) (fun x => [oI K (frD x)]) Canon fun _ => oI K (.bool true)
theorem at_is_fraction (T : Tx K mg) : At P w K mg base 2 "is_fraction" ["thing"] (sp_is_fraction K) := by
  refine at_of T.d_is_fraction sc_is_fraction (fun _ => rfl) fun f cdv A outer s H vs Q E a hr hp ha q => ?_
  refine ⟨_, (pss_cons (ps_if (PW.pt (pw_or (pt_not (pt_val (pe_callB (r := rIsi K) call_isi (by rfl) T.m_isinstance (by decide +kernel) (pa_cons (pv 0) (pa_cons (pe_bltn (v := .ty "tuple") (by rfl) T.m_tuple (by decide +kernel) rfl) pa_nil))))) (pw_or (pt_cmpR op_ne (pe_callB (r := rLenS K) cr_lenS (by rfl) T.m_len (by decide +kernel) (pa_cons (pv 0) pa_nil)) pe_int (nomark _)) (pw_or (pt_not (pt_val (pe_at (at_is_whole T) (hr.mono (by decide)) (by rfl) (pa_cons (pe_ix (r := rIxT K) ix_tup (pv 0) pe_int (fun _ _ => rfl)) pa_nil)))) (pw_or1 (pt_not (pt_val (pe_at (at_is_whole T) (hr.mono (by decide)) (by rfl) (pa_cons (pe_ix (r := rIxT K) ix_tup (pv 0) pe_int (fun _ _ => rfl)) pa_nil))))))))) (pss_one (ps_ret pe_bl)) pss_nil)
 (pss_one (ps_ret (pe_and (pe_cmpR op_gt (pe_ix (r := rIxT K) ix_tup (pv 0) pe_int (fun _ _ => rfl)) pe_int (nomark _)) (pe_one (pe_cmpR op_eq (pe_at (at_shared_part T) (hr.mono (by decide)) (by rfl) (pa_cons (pe_ix (r := rIxT K) ix_tup (pv 0) pe_int (fun _ _ => rfl)) (pa_cons (pe_ix (r := rIxT K) ix_tup (pv 0) pe_int (fun _ _ => rfl)) pa_nil))) pe_int (nomark _))))))), ?_⟩
  walk_at "nk"
  obtain ⟨v, rfl, h1⟩ := oall1 ha
  have w1 : Ev (tVar 0) (start N_is_fraction [v]) H (oI K (frD a)) := ev_varI rfl h1
  refine q_skip (evb_or (a := false) (evb_not (a := true) (evb_B (ev_isi w1 kit_tt))) fun _ => evb_or (a := false) (evb_is (evb_test (ev_neI (ev_lenT w1) ev_int)) rfl) fun _ =>
    evb_or (a := false) (evb_not (a := true) (evb_B (ev_is_whole (ev_ixT w1 ev_int rfl)))) fun _ => evb_not (a := true) (evb_B (ev_is_whole (ev_ixT w1 ev_int rfl)))) fun H1 s1 => ?_
  have w2 := w1.same s1
  refine s_ret (ev_andV (ev_cmp (ev_ixT w2 ev_int rfl) ev_int) fun _ => ev_eqI (ev_shared_part (ev_ixT w2 ev_int rfl) (ev_ixT w2 ev_int rfl)) ev_int) fun v H2 s2 p => q v H2 (s1.trans s2) ?_
  have e1 : decide ((0 : Int) < a.2) = true := decide_eq_true hp.1
  have e2 : decide (((Int.gcd a.1 a.2 : Nat) : Int) = 1) = true := decide_eq_true (by rw [hp.2]; rfl)
  rw [e1, e2] at p
  exact p
theorem ev_is_fraction {σ : L2.St} {H : Hp} {ta : TE} {x : Fr} (h : Ev ta σ H (oI K (frD x))) (hc : Canon x) : Ev (tCall (sp_is_fraction K) [] E0 (tCons ta tNil)) σ H (oI K (.bool true)) := ev_call x (eva_cons h eva_nil) hc
/-- numbers of so many bits -/
def Bt (n : Nat) (i : Int) : Prop := i.natAbs < 2 ^ n
theorem Bt.mono {m n : Nat} {i : Int} (h : Bt m i) (l : m ≤ n) : Bt n i := Nat.lt_of_lt_of_le h (Nat.pow_le_pow_right (by decide) l)
theorem Bt.mul {m n : Nat} {i j : Int} (h : Bt m i) (k : Bt n j) : Bt (m + n) (i * j) := wide_lt h k
theorem Bt.add {n : Nat} {i j : Int} (h : Bt n i) (k : Bt n j) : Bt (n + 1) (i + j) := by
  unfold Bt at *
  have := Int.natAbs_add_le i j
  rw [Nat.pow_succ]
  omega
theorem Bt.sub {n : Nat} {i j : Int} (h : Bt n i) (k : Bt n j) : Bt (n + 1) (i - j) := by
  unfold Bt at *
  have := Int.natAbs_sub_le i j
  rw [Nat.pow_succ]
  omega
theorem Bt.cm {m n : Nat} {i j : Int} (h : Bt m i) (k : Bt n j) (h0 : 0 < m) (k0 : 0 < n) (l : m + n ≤ 1000000) : CMulW i j := wide_mul h k h0 k0 l
theorem Bt.cd {n : Nat} {i j : Int} (k : Bt n j) (h : 0 < j) (k0 : 0 < n) (l : n ≤ 9000) : CDivW i j := wide_div h k k0 l
theorem Bt.of {n : Nat} {i j : Int} (h : Bt n i) (l : j.natAbs ≤ i.natAbs) : Bt n j := Nat.lt_of_le_of_lt l h
structure Bf (n : Nat) (x : Fr) : Prop where
  t : Bt n x.1
  b : Bt n x.2
def sp_fraction (K : PySem.W.Frag) : Sp := spD (α := Int × Int) (fun a => [oI K (.int a.1), oI K (.int a.2)]) (fun a => 0 < a.2 ∧ Bt 8000 a.2) fun a => oI K (frD (red a.1 a.2))
theorem at_fraction (T : Tx K mg) : At P w K mg base 2 "fraction" ["top", "bottom"] (sp_fraction K) := by
  refine at_of T.d_fraction sc_fraction (fun _ => rfl) fun f cdv A outer s H vs Q E a hr hp ha q => ?_
  refine ⟨_, (pss_cons (ps_if (pt_cmpR op_eq (pv 1) pe_int (nomark _)) (pss_one ps_never) pss_nil)
 (pss_cons (ps_set (i := 2) sc_fraction.nd rfl (Or.inl rfl) (pe_at (at_shared_part T) (hr.mono (by decide)) (by rfl) (pa_cons (pv 0) (pa_cons (pv 1) pa_nil))))
 (pss_cons (ps_if (pt_cmpR op_lt (pv 1) pe_int (nomark _)) (pss_one (ps_set (i := 2) sc_fraction.nd rfl (Or.inl rfl) (pe_op op_sub pe_int (pv 2)))) pss_nil)
 (pss_one (ps_ret (pe_tup (pa_cons (pe_op op_fdivW (pv 0) (pv 2)) (pa_cons (pe_op op_fdivW (pv 1) (pv 2)) pa_nil)))))))), ?_⟩
  walk_at "nk"
  obtain ⟨v1, v2, rfl, h1, h2⟩ := oall2 ha
  obtain ⟨hb, hw⟩ := hp
  refine q_skip (evb_is (evb_test (ev_eqI (ev_varI rfl h2) ev_int)) (decide_eq_false (by omega))) fun H1 s1 => ?_
  refine q_set (ev_call a (eva_cons (ev_varI rfl (h1.same s1)) (eva_cons (ev_varI rfl (h2.same s1)) eva_nil)) trivial) fun v H2 s2 p => ?_
  have s02 := s1.trans s2
  refine q_skip (evb_is (evb_test (ev_cmp (ev_varI rfl (h2.same s02)) ev_int)) (decide_eq_false (by omega))) fun H3 s3 => ?_
  have s03 := s02.trans s3
  have hg : 0 < Int.gcd a.1 a.2 := Int.gcd_pos_of_ne_zero_right a.1 (by omega)
  have hd : ((Int.gcd a.1 a.2 : Nat) : Int).natAbs ≤ a.2.natAbs := Nat.le_of_dvd (by omega) (Int.gcd_dvd_natAbs_right a.1 a.2)
  have cd : ∀ i, CDivW i ((Int.gcd a.1 a.2 : Nat) : Int) := fun i => (hw.of hd).cd (by omega) (by decide) (by decide)
  exact s_ret (ev_tup2 (ev_div (ev_varI rfl (h1.same s03)) (ev_varI rfl (p.same s3)) (cd _)) (ev_div (ev_varI rfl (h2.same s03)) (ev_varI rfl (p.same s3)) (cd _))) fun v H4 s4 p4 => q v H4 (s03.trans s4) p4
theorem ev_fraction {σ : L2.St} {H : Hp} {ta tb : TE} {i j : Int} (h : Ev ta σ H (oI K (.int i))) (k : Ev tb σ H (oI K (.int j))) (h0 : 0 < j) (hb : Bt 8000 j) : Ev (tCall (sp_fraction K) [] E0 (tCons ta (tCons tb tNil))) σ H (oI K (frD (red i j))) := ev_call (i, j) (eva_cons h (eva_cons k eva_nil)) ⟨h0, hb⟩
def sp_plus (K : PySem.W.Frag) : Sp := spD (α := Fr × Fr) (fun a => [oI K (frD a.1), oI K (frD a.2)]) (fun a => Bf 1000 a.1 ∧ Bf 1000 a.2 ∧ 0 < a.1.2 ∧ 0 < a.2.2) fun a => oI K (frD (red (a.1.1 * a.2.2 + a.2.1 * a.1.2) (a.1.2 * a.2.2)))
theorem at_plus (T : Tx K mg) : At P w K mg base 3 "plus" ["a", "b"] (sp_plus K) := by
  refine at_of T.d_plus sc_plus (fun _ => rfl) fun f cdv A outer s H vs Q E a hr hp ha q => ?_
  refine ⟨_, (pss_one (ps_ret (pe_at (at_fraction T) (hr.mono (by decide)) (by rfl) (pa_cons (pe_op op_add (pe_op op_mulW (pe_ix (r := rIxT K) ix_tup (pv 0) pe_int (fun _ _ => rfl)) (pe_ix (r := rIxT K) ix_tup (pv 1) pe_int (fun _ _ => rfl))) (pe_op op_mulW (pe_ix (r := rIxT K) ix_tup (pv 1) pe_int (fun _ _ => rfl)) (pe_ix (r := rIxT K) ix_tup (pv 0) pe_int (fun _ _ => rfl)))) (pa_cons (pe_op op_mulW (pe_ix (r := rIxT K) ix_tup (pv 0) pe_int (fun _ _ => rfl)) (pe_ix (r := rIxT K) ix_tup (pv 1) pe_int (fun _ _ => rfl))) pa_nil))))), ?_⟩
  walk_at "nk"
  obtain ⟨v1, v2, rfl, h1, h2⟩ := oall2 ha
  obtain ⟨⟨x, y⟩, ⟨z, u⟩⟩ := a
  obtain ⟨⟨b1, b2⟩, ⟨b3, b4⟩, l1, l2⟩ := hp
  have c1 : CMulW x u := b1.cm b4 (by decide) (by decide) (by decide)
  have c2 : CMulW z y := b3.cm b2 (by decide) (by decide) (by decide)
  have c3 : CMulW y u := b2.cm b4 (by decide) (by decide) (by decide)
  exact s_ret (ev_fraction (by walk_at "ev") (by walk_at "ev") (Int.mul_pos l1 l2) ((b2.mul b4).mono (by decide))) q
theorem ev_plus {σ : L2.St} {H : Hp} {ta tb : TE} {x y : Fr} (h : Ev ta σ H (oI K (frD x))) (k : Ev tb σ H (oI K (frD y))) (hx : Bf 1000 x) (hy : Bf 1000 y) (h0 : 0 < x.2) (k0 : 0 < y.2) : Ev (tCall (sp_plus K) [] E0 (tCons ta (tCons tb tNil))) σ H (oI K (frD (red (x.1 * y.2 + y.1 * x.2) (x.2 * y.2)))) := ev_call (x, y) (eva_cons h (eva_cons k eva_nil)) ⟨hx, hy, h0, k0⟩
def sp_minus (K : PySem.W.Frag) : Sp := spD (α := Fr × Fr) (fun a => [oI K (frD a.1), oI K (frD a.2)]) (fun a => Bf 1000 a.1 ∧ Bf 1000 a.2 ∧ 0 < a.1.2 ∧ 0 < a.2.2) fun a => oI K (frD (red (a.1.1 * a.2.2 - a.2.1 * a.1.2) (a.1.2 * a.2.2)))
theorem at_minus (T : Tx K mg) : At P w K mg base 3 "minus" ["a", "b"] (sp_minus K) := by
  refine at_of T.d_minus sc_minus (fun _ => rfl) fun f cdv A outer s H vs Q E a hr hp ha q => ?_
  refine ⟨_, (pss_one (ps_ret (pe_at (at_fraction T) (hr.mono (by decide)) (by rfl) (pa_cons (pe_op op_sub (pe_op op_mulW (pe_ix (r := rIxT K) ix_tup (pv 0) pe_int (fun _ _ => rfl)) (pe_ix (r := rIxT K) ix_tup (pv 1) pe_int (fun _ _ => rfl))) (pe_op op_mulW (pe_ix (r := rIxT K) ix_tup (pv 1) pe_int (fun _ _ => rfl)) (pe_ix (r := rIxT K) ix_tup (pv 0) pe_int (fun _ _ => rfl)))) (pa_cons (pe_op op_mulW (pe_ix (r := rIxT K) ix_tup (pv 0) pe_int (fun _ _ => rfl)) (pe_ix (r := rIxT K) ix_tup (pv 1) pe_int (fun _ _ => rfl))) pa_nil))))), ?_⟩
  walk_at "nk"
  obtain ⟨v1, v2, rfl, h1, h2⟩ := oall2 ha
  obtain ⟨⟨x, y⟩, ⟨z, u⟩⟩ := a
  obtain ⟨⟨b1, b2⟩, ⟨b3, b4⟩, l1, l2⟩ := hp
  have c1 : CMulW x u := b1.cm b4 (by decide) (by decide) (by decide)
  have c2 : CMulW z y := b3.cm b2 (by decide) (by decide) (by decide)
  have c3 : CMulW y u := b2.cm b4 (by decide) (by decide) (by decide)
  exact s_ret (ev_fraction (by walk_at "ev") (by walk_at "ev") (Int.mul_pos l1 l2) ((b2.mul b4).mono (by decide))) q
theorem ev_minus {σ : L2.St} {H : Hp} {ta tb : TE} {x y : Fr} (h : Ev ta σ H (oI K (frD x))) (k : Ev tb σ H (oI K (frD y))) (hx : Bf 1000 x) (hy : Bf 1000 y) (h0 : 0 < x.2) (k0 : 0 < y.2) : Ev (tCall (sp_minus K) [] E0 (tCons ta (tCons tb tNil))) σ H (oI K (frD (red (x.1 * y.2 - y.1 * x.2) (x.2 * y.2)))) := ev_call (x, y) (eva_cons h (eva_cons k eva_nil)) ⟨hx, hy, h0, k0⟩
def sp_times (K : PySem.W.Frag) : Sp := spD (α := Fr × Fr) (fun a => [oI K (frD a.1), oI K (frD a.2)]) (fun a => Bf 1000 a.1 ∧ Bf 1000 a.2 ∧ 0 < a.1.2 ∧ 0 < a.2.2) fun a => oI K (frD (red (a.1.1 * a.2.1) (a.1.2 * a.2.2)))
theorem at_times (T : Tx K mg) : At P w K mg base 3 "times" ["a", "b"] (sp_times K) := by
  refine at_of T.d_times sc_times (fun _ => rfl) fun f cdv A outer s H vs Q E a hr hp ha q => ?_
  refine ⟨_, (pss_one (ps_ret (pe_at (at_fraction T) (hr.mono (by decide)) (by rfl) (pa_cons (pe_op op_mulW (pe_ix (r := rIxT K) ix_tup (pv 0) pe_int (fun _ _ => rfl)) (pe_ix (r := rIxT K) ix_tup (pv 1) pe_int (fun _ _ => rfl))) (pa_cons (pe_op op_mulW (pe_ix (r := rIxT K) ix_tup (pv 0) pe_int (fun _ _ => rfl)) (pe_ix (r := rIxT K) ix_tup (pv 1) pe_int (fun _ _ => rfl))) pa_nil))))), ?_⟩
  walk_at "nk"
  obtain ⟨v1, v2, rfl, h1, h2⟩ := oall2 ha
  obtain ⟨⟨x, y⟩, ⟨z, u⟩⟩ := a
  obtain ⟨⟨b1, b2⟩, ⟨b3, b4⟩, l1, l2⟩ := hp
  have c1 : CMulW x z := b1.cm b3 (by decide) (by decide) (by decide)
  have c3 : CMulW y u := b2.cm b4 (by decide) (by decide) (by decide)
  exact s_ret (ev_fraction (by walk_at "ev") (by walk_at "ev") (Int.mul_pos l1 l2) ((b2.mul b4).mono (by decide))) q
theorem ev_times {σ : L2.St} {H : Hp} {ta tb : TE} {x y : Fr} (h : Ev ta σ H (oI K (frD x))) (k : Ev tb σ H (oI K (frD y))) (hx : Bf 1000 x) (hy : Bf 1000 y) (h0 : 0 < x.2) (k0 : 0 < y.2) : Ev (tCall (sp_times K) [] E0 (tCons ta (tCons tb tNil))) σ H (oI K (frD (red (x.1 * y.1) (x.2 * y.2)))) := ev_call (x, y) (eva_cons h (eva_cons k eva_nil)) ⟨hx, hy, h0, k0⟩
def sp_below (K : PySem.W.Frag) : Sp := spD (α := Fr × Fr) (fun a => [oI K (frD a.1), oI K (frD a.2)]) (fun a => Bf 1000 a.1 ∧ Bf 1000 a.2) fun a => oI K (.bool (decide (a.1.1 * a.2.2 < a.2.1 * a.1.2)))
theorem at_below (T : Tx K mg) : At P w K mg base 1 "below" ["a", "b"] (sp_below K) := by
  refine at_of T.d_below sc_below (fun _ => rfl) fun f cdv A outer s H vs Q E a hr hp ha q => ?_
  refine ⟨_, (pss_one (ps_ret (pe_cmpR op_lt (pe_op op_mulW (pe_ix (r := rIxT K) ix_tup (pv 0) pe_int (fun _ _ => rfl)) (pe_ix (r := rIxT K) ix_tup (pv 1) pe_int (fun _ _ => rfl))) (pe_op op_mulW (pe_ix (r := rIxT K) ix_tup (pv 1) pe_int (fun _ _ => rfl)) (pe_ix (r := rIxT K) ix_tup (pv 0) pe_int (fun _ _ => rfl))) (nomark _)))), ?_⟩
  walk_at "nk"
  obtain ⟨v1, v2, rfl, h1, h2⟩ := oall2 ha
  obtain ⟨⟨x, y⟩, ⟨z, u⟩⟩ := a
  obtain ⟨⟨b1, b2⟩, ⟨b3, b4⟩⟩ := hp
  have c1 : CMulW x u := b1.cm b4 (by decide) (by decide) (by decide)
  have c2 : CMulW z y := b3.cm b2 (by decide) (by decide) (by decide)
  refine s_ret (ev_cmp (by walk_at "ev") (by walk_at "ev")) q
theorem ev_below {σ : L2.St} {H : Hp} {ta tb : TE} {x y : Fr} (h : Ev ta σ H (oI K (frD x))) (k : Ev tb σ H (oI K (frD y))) (hx : Bf 1000 x) (hy : Bf 1000 y) : Ev (tCall (sp_below K) [] E0 (tCons ta (tCons tb tNil))) σ H (oI K (.bool (decide (x.1 * y.2 < y.1 * x.2)))) := ev_call (x, y) (eva_cons h (eva_cons k eva_nil)) ⟨hx, hy⟩
end
end Cut
end
section
namespace Cut
open PySem PySem.Spec PyProof.Rows L2
local macro_rules | `(tactic| walk_at "nk") => `(tactic| first | dsimp only [cxOf, Cx.nox, Cx.wish, Cx.blk] | skip)
local macro_rules | `(tactic| walk_at "im") => `(tactic| first
  | assumption
  | exact Im.int _ | exact Im.str _ | exact Im.bl _ | exact Im.non
  | (refine Im.same (by assumption) ?_; walk_at "im"))
local macro_rules | `(tactic| walk_at "side") => `(tactic| first | assumption | rfl | omega)
local macro_rules | `(tactic| walk_at "ev") => `(tactic| first
  | (with_reducible exact ev_int) | (with_reducible exact ev_str) | (with_reducible exact ev_bl) | (with_reducible exact ev_non)
  | ((with_reducible apply ev_varI); rfl; walk_at "im")
  | ((with_reducible apply ev_ixT); walk_at "ev"; walk_at "ev"; walk_at "side")
  | ((with_reducible apply ev_add); walk_at "ev"; walk_at "ev")
  | ((with_reducible apply ev_sub); walk_at "ev"; walk_at "ev")
  | ((with_reducible apply ev_mul); walk_at "ev"; walk_at "ev"; walk_at "side")
  | ((with_reducible apply ev_div); walk_at "ev"; walk_at "ev"; walk_at "side")
  | ((with_reducible apply ev_mod); walk_at "ev"; walk_at "ev"; walk_at "side")
  | ((with_reducible apply ev_eqI); walk_at "ev"; walk_at "ev")
  | ((with_reducible apply ev_neI); walk_at "ev"; walk_at "ev")
  | ((with_reducible apply ev_eqS); walk_at "ev"; walk_at "ev")
  | ((with_reducible apply ev_neS); walk_at "ev"; walk_at "ev")
  | ((with_reducible apply ev_cmp); walk_at "ev"; walk_at "ev")
  | ((with_reducible apply ev_tup1); walk_at "ev")
  | ((with_reducible apply ev_tup2); walk_at "ev"; walk_at "ev")
  | ((with_reducible apply ev_tup3); walk_at "ev"; walk_at "ev"; walk_at "ev")
  | ((with_reducible apply ev_tup4); walk_at "ev"; walk_at "ev"; walk_at "ev"; walk_at "ev")
  | ((with_reducible apply ev_tup5); walk_at "ev"; walk_at "ev"; walk_at "ev"; walk_at "ev"; walk_at "ev")
  | ((with_reducible apply ev_lenT); walk_at "ev")
  | ((with_reducible apply ev_abs); walk_at "ev")
  | ((with_reducible apply ev_tupleL); walk_at "ev")
  | ((with_reducible apply ev_notV); walk_at "ev")
  | assumption)

/-! webs as data -/
abbrev placeD (z : Place) : PyData := .tuple [.str z.n, .int z.a, .int z.b, .int z.c, .int z.d]
abbrev tieD (t : Tie) : PyData := .tuple [.str t.x, .str t.y, .int t.s]
abbrev webD (W : Web) : PyData := .tuple [.int W.top, .tuple (W.places.map placeD), .tuple (W.ties.map tieD)]
structure WebOk (W : Web) : Prop where
  nm : NamesOk W
  np : W.places.length ≤ 8
  nt : W.ties.length ≤ 16
  tp : 0 < W.top ∧ W.top ≤ 9
  pl : ∀ z ∈ W.places, (0 ≤ z.a ∧ z.a ≤ 10000) ∧ (0 ≤ z.b ∧ z.b ≤ 10000) ∧ (0 ≤ z.d ∧ z.d ≤ 10000) ∧ W.top * z.d ≤ z.c ∧ z.c ≤ 100000
  ti : ∀ t ∈ W.ties, 1 ≤ t.s ∧ t.s ≤ 10000
  sk : ∀ x ∈ W.names, PyData.strOk x = true
structure PrOk (W : Web) (x : Fr) : Prop where
  can : Canon x
  lo : 0 ≤ x.1
  hi : x.1 ≤ W.top * x.2
  sm : x.2 ≤ 1000000000000
/-- x is n by q, neither of them too great -/
structure Fw (q : Int) (x : Fr) (n : Int) : Prop where
  v : Fv x n q
  b : Bt 600 n
theorem bt_of {i : Int} {n : Nat} (h0 : 0 ≤ i) (h : i < 2 ^ n) : Bt n i := by
  unfold Bt
  have e : ((i.natAbs : Nat) : Int) = i := by omega
  have : ((i.natAbs : Nat) : Int) < ((2 ^ n : Nat) : Int) := by
    rw [e, Int.natCast_pow]
    exact h
  exact Int.ofNat_lt.mp this
theorem bt_small {i : Int} {n : Nat} (h0 : -1000000000000000000 ≤ i) (h : i ≤ 1000000000000000000) (hn : 100 ≤ n) : Bt n i := by
  have : Bt 100 i := by
    unfold Bt
    have e : (2 : Nat) ^ 100 = 1267650600228229401496703205376 := by decide
    rw [e]
    omega
  exact this.mono hn
section
variable {q : Int} {x y : Fr} {n m : Int}
theorem Fw.bf (h : Fw q x n) (hq : 0 < q) (hb : Bt 600 q) : Bf 1000 x := by
  obtain ⟨h1, h2⟩ := fv_top hq h.v
  exact ⟨(h.b.of h1).mono (by decide), (hb.of h2).mono (by decide)⟩
theorem Fw.pos (h : Fw q x n) : 0 < x.2 := h.v.can.1
end
theorem canon_bf {x : Fr} (h : Bt 600 x.1) (k : Bt 600 x.2) : Bf 1000 x := ⟨h.mono (by decide), k.mono (by decide)⟩
def fPlus (a b : Fr) : Fr := red (a.1 * b.2 + b.1 * a.2) (a.2 * b.2)
def fMinus (a b : Fr) : Fr := red (a.1 * b.2 - b.1 * a.2) (a.2 * b.2)
def fTimes (a b : Fr) : Fr := red (a.1 * b.1) (a.2 * b.2)
def intoF (L : Fr) (z : Place) : Fr := fPlus (red z.a 1) (fTimes (red z.b 1) L)
def outF (L : Fr) (z : Place) : Fr := fMinus (red z.c 1) (fTimes (red z.d 1) L)
abbrev thruF (t : Tie) : Fr := (t.s, 1)
abbrev frsD (l : List Fr) : PyData := .tuple (l.map frD)
abbrev sizesD (W : Web) (L : Fr) : PyData := .tuple [frsD (W.places.map (intoF L)), frsD (W.ties.map thruF), frsD (W.places.map (outF L))]
theorem PrOk.pos {W : Web} {L : Fr} (h : PrOk W L) : 0 < L.2 := h.can.1
theorem red_one (n : Int) : red n 1 = (n, 1) := by
  unfold red
  rw [Int.gcd_one_right]
  simp
section
variable {W : Web} {L : Fr}
theorem PrOk.bt2 (h : PrOk W L) : Bt 600 L.2 := bt_small (by have := h.pos; omega) (by have := h.sm; omega) (by decide)
theorem PrOk.le1 (hw : WebOk W) (h : PrOk W L) : L.1 ≤ 9 * L.2 := by
  have a := h.hi
  have b := hw.tp.2
  have c := h.pos
  have := Int.mul_le_mul_of_nonneg_right b (Int.le_of_lt c)
  omega
theorem PrOk.bt1 (hw : WebOk W) (h : PrOk W L) : Bt 600 L.1 := bt_small (by have := h.lo; omega) (by have := h.le1 hw; have := h.sm; omega) (by decide)
theorem prod_le {a b q p : Int} (ha : 0 ≤ a ∧ a ≤ 100000) (hq : 0 ≤ q ∧ q ≤ 10000000000000) : 0 ≤ a * q ∧ a * q ≤ 1000000000000000000 := by
  refine ⟨Int.mul_nonneg ha.1 hq.1, ?_⟩
  have h1 := Int.mul_le_mul_of_nonneg_right ha.2 hq.1
  omega
theorem ic_bd (hw : WebOk W) (h : PrOk W L) {z : Place} (hz : z ∈ W.places) : 0 ≤ ic L.1 L.2 z ∧ ic L.1 L.2 z ≤ 100000000000000000 := by
  obtain ⟨⟨a1, a2⟩, ⟨b1, b2⟩, _⟩ := hw.pl z hz
  have q1 := h.pos
  have q2 := h.sm
  have p1 := h.lo
  have p2 := h.le1 hw
  unfold ic
  have e1 := Int.mul_nonneg a1 (Int.le_of_lt q1)
  have e2 := Int.mul_nonneg b1 p1
  have e3 := Int.mul_le_mul_of_nonneg_right a2 (Int.le_of_lt q1)
  have e4 := Int.mul_le_mul_of_nonneg_right b2 p1
  omega
theorem oc_bd (hw : WebOk W) (h : PrOk W L) {z : Place} (hz : z ∈ W.places) : 0 ≤ oc L.1 L.2 z ∧ oc L.1 L.2 z ≤ 100000000000000000 := by
  obtain ⟨_, _, ⟨d1, d2⟩, c1, c2⟩ := hw.pl z hz
  have q1 := h.pos
  have q2 := h.sm
  have p1 := h.lo
  have p2 := h.hi
  unfold oc
  have e2 := Int.mul_nonneg d1 p1
  have e3 := Int.mul_le_mul_of_nonneg_right c1 (Int.le_of_lt q1)
  have e4 := Int.mul_le_mul_of_nonneg_left p2 d1
  have e5 : W.top * z.d * L.2 = z.d * (W.top * L.2) := by grind
  have e6 := Int.mul_le_mul_of_nonneg_right c2 (Int.le_of_lt q1)
  omega
theorem tc_bd (hw : WebOk W) (h : PrOk W L) {t : Tie} (ht : t ∈ W.ties) : 0 < tc L.2 t ∧ tc L.2 t ≤ 100000000000000000 := by
  obtain ⟨s1, s2⟩ := hw.ti t ht
  have q1 := h.pos
  have q2 := h.sm
  unfold tc
  have e1 : 0 < t.s * L.2 := Int.mul_pos (by omega) q1
  have e2 := Int.mul_le_mul_of_nonneg_right s2 (Int.le_of_lt q1)
  omega
theorem price_fw (hw : WebOk W) (h : PrOk W L) : Fw L.2 L L.1 := ⟨fv_self h.can, h.bt1 hw⟩
theorem mul_fw (hw : WebOk W) (h : PrOk W L) {k : Int} (hk : 0 ≤ k ∧ k ≤ 100000) : Fw L.2 (fTimes (red k 1) L) (k * L.1) := by
  refine ⟨fv_mulI h.pos (red_fv (by decide)) (fv_self h.can), ?_⟩
  have := prod_le (a := k) (q := L.1) (b := 0) (p := 0) hk ⟨h.lo, by have := h.le1 hw; have := h.sm; omega⟩
  exact bt_small (by omega) (by omega) (by decide)
theorem int_fw (h : PrOk W L) {k : Int} (hk : 0 ≤ k ∧ k ≤ 100000) : Fw L.2 (red k 1) (k * L.2) := by
  refine ⟨fv_1d (red_fv (by decide)), ?_⟩
  have := prod_le (a := k) (q := L.2) (b := 0) (p := 0) hk ⟨Int.le_of_lt h.pos, by have := h.sm; omega⟩
  exact bt_small (by omega) (by omega) (by decide)
theorem into_fw (hw : WebOk W) (h : PrOk W L) {z : Place} (hz : z ∈ W.places) : Fw L.2 (intoF L z) (ic L.1 L.2 z) := by
  obtain ⟨⟨a1, a2⟩, ⟨b1, b2⟩, _⟩ := hw.pl z hz
  refine ⟨fv_add h.pos (int_fw h ⟨a1, by omega⟩).v (mul_fw hw h ⟨b1, by omega⟩).v, ?_⟩
  have := ic_bd hw h hz
  exact bt_small (by omega) (by omega) (by decide)
theorem out_fw (hw : WebOk W) (h : PrOk W L) {z : Place} (hz : z ∈ W.places) : Fw L.2 (outF L z) (oc L.1 L.2 z) := by
  obtain ⟨_, _, ⟨d1, d2⟩, c1, c2⟩ := hw.pl z hz
  have c0 : 0 ≤ z.c := by
    have := Int.mul_nonneg (Int.le_of_lt hw.tp.1) d1
    omega
  refine ⟨fv_sub h.pos (int_fw h ⟨c0, c2⟩).v (mul_fw hw h ⟨d1, by omega⟩).v, ?_⟩
  have := oc_bd hw h hz
  exact bt_small (by omega) (by omega) (by decide)
theorem thru_fw (hw : WebOk W) (h : PrOk W L) {t : Tie} (ht : t ∈ W.ties) : Fw L.2 (thruF t) (tc L.2 t) := by
  refine ⟨fv_intd, ?_⟩
  have := tc_bd hw h ht
  exact bt_small (by omega) (by omega) (by decide)
end
section
variable {P : Program} {w : World} {K : PySem.W.Frag} {mg : Str → Option Value} {base : Heap}
theorem names_map (W : Web) : W.places.map (fun z => PyData.str z.n) = W.names.map .str := by
  unfold Web.names
  rw [List.map_map]
  rfl
def sp_names_of (K : PySem.W.Frag) : Sp := spD (α := Web) (fun W => [oI K (webD W)]) WebOk fun W => oI K (.tuple (W.names.map .str))
theorem at_names_of (T : Tx K mg) : At P w K mg base 1 "names_of" ["web"] (sp_names_of K) := by
  refine at_of T.d_names_of sc_names_of (fun _ => rfl) fun f cdv A outer s H vs Q E a hr hp ha q => ?_
  refine ⟨_, (pss_one (ps_ret (pe_callTy (r := rTupleOf K) cr_tupleOf (by rfl) T.m_tuple (by decide +kernel) (pa_cons (pe_lc rfl sc_names_of.nd (show PI _ _ _ (iTup K _) from pi_tup (pe_ix (r := rIxT K) ix_tup (pv 0) pe_int (fun _ _ => rfl))) (blkOk_by (N := N_names_of) (sc := defScope s_names_of) (own := [("place", 1)]) (by decide +kernel)) (fun _ _ _ _ _ => (pg_name (i := 1) sc_names_of.nd rfl (Or.inl rfl))) (fun _ _ _ _ _ => pts_nil) (fun _ _ _ _ _ => (pe_ix (r := rIxT K) ix_tup (pv 1) pe_int (fun _ _ => rfl)))) pa_nil)))), ?_⟩
  walk_at "nk"
  obtain ⟨v, rfl, h1⟩ := oall1 ha
  have w1 : Ev (tVar 0) (start N_names_of [v]) H (oI K (webD a)) := ev_varI rfl h1
  exact s_ret (ev_tupleL (Ev.ls (ev_lcmA a.places placeD (fun z => .str z.n) (evi_tup (ev_ixT (i := 1) w1 ev_int rfl)) (by have := hp.np; omega)
    (fun z x H1 hz s p => ⟨rfl, Same.refl _, ev_ixT (ev_varI rfl p) ev_int rfl⟩) gm_name (names_map a)))) q
theorem ev_names_of {σ : L2.St} {H : Hp} {ta : TE} {W : Web} (h : Ev ta σ H (oI K (webD W))) (hw : WebOk W) : Ev (tCall (sp_names_of K) [] E0 (tCons ta tNil)) σ H (oI K (.tuple (W.names.map .str))) := ev_call W (eva_cons h eva_nil) hw
def sp_is_price (K : PySem.W.Frag) : Sp := spD (α := Web × Fr) (fun a => [oI K (webD a.1), oI K (frD a.2)]) (fun a => WebOk a.1 ∧ PrOk a.1 a.2) fun _ => oI K (.bool true)
theorem at_is_price (T : Tx K mg) : At P w K mg base 3 "is_price" ["web", "thing"] (sp_is_price K) := by
  refine at_of T.d_is_price sc_is_price (fun _ => rfl) fun f cdv A outer s H vs Q E a hr hp ha q => ?_
  obtain ⟨aN, g_NOUGHT_webs, hN⟩ := T.c_NOUGHT_webs
  refine ⟨_, (pss_cons (ps_if (pt_not (pt_val (pe_at (at_is_fraction T) (hr.mono (by decide)) (by rfl) (pa_cons (pv 1) pa_nil)))) (pss_one (ps_ret pe_bl)) pss_nil)
 (pss_one (ps_ret (pe_and (pe_not (pe_at (at_below T) (hr.mono (by decide)) (by rfl) (pa_cons (pv 1) (pa_cons (pe_glob (v := .ref aN) (by rfl) g_NOUGHT_webs rfl) pa_nil)))) (pe_one (pe_not (pe_at (at_below T) (hr.mono (by decide)) (by rfl) (pa_cons (pe_tup (pa_cons (pe_ix (r := rIxT K) ix_tup (pv 0) pe_int (fun _ _ => rfl)) (pa_cons pe_int pa_nil))) (pa_cons (pv 1) pa_nil))))))))), ?_⟩
  walk_at "nk"
  obtain ⟨v1, v2, rfl, h1, h2⟩ := oall2 ha
  obtain ⟨W, L⟩ := a
  have hw : WebOk W := hp.1
  have hl : PrOk W L := hp.2
  have h1 : Im K H v1 (webD W) := h1
  have h2 : Im K H v2 (frD L) := h2
  have bL : Bf 1000 L := canon_bf (hl.bt1 hw) hl.bt2
  have tp := hw.tp
  have b0 : Bf 1000 ((0, 1) : Fr) := canon_bf (bt_small (by decide) (by decide) (by decide)) (bt_small (by decide) (by decide) (by decide))
  have bt : Bf 1000 (W.top, 1) := canon_bf (x := (W.top, 1)) (show Bt 600 W.top from bt_small (by omega) (by omega) (by decide)) (show Bt 600 1 from bt_small (by decide) (by decide) (by decide))
  have n0 : ∀ H1, Im K H1 (.ref aN) (frD (0, 1)) := fun H1 => Im.tup (hN H1) (.cons (Im.int _) (.one (Im.int _)))
  refine q_skip (evb_not (a := true) (evb_B (ev_is_fraction (ev_varI rfl h2) hl.can))) fun H1 s1 => ?_
  have h2' := Im.same s1 h2
  have h1' := Im.same s1 h1
  have e1 : decide (L.1 * 1 < 0 * L.2) = false := decide_eq_false (by have := hl.lo; omega)
  have e2 : decide (W.top * L.2 < L.1 * 1) = false := decide_eq_false (by have := hl.hi; omega)
  refine s_ret (ev_andV (a := true) (b := true) (ev_isD (ev_notV (ev_below (x := L) (y := (0, 1)) (ev_varI rfl h2') (ev_c (P := oI K (frD (0, 1))) (n0 _)) bL b0)) (by show PyData.bool (!decide (L.1 * 1 < 0 * L.2)) = _; rw [e1]; rfl)) fun _ =>
    ev_isD (ev_notV (ev_below (x := (W.top, 1)) (y := L) (ev_tup2 (ev_ixT (ds := [.int W.top, .tuple (W.places.map placeD), .tuple (W.ties.map tieD)]) (ev_varI rfl h1') ev_int rfl) ev_int) (ev_varI rfl h2') bt bL)) (by show PyData.bool (!decide (W.top * L.2 < L.1 * 1)) = _; rw [e2]; rfl)) fun v H2 s2 p => q v H2 (s1.trans s2) p
theorem ev_is_price {σ : L2.St} {H : Hp} {ta tb : TE} {W : Web} {L : Fr} (h : Ev ta σ H (oI K (webD W))) (k : Ev tb σ H (oI K (frD L))) (hw : WebOk W) (hl : PrOk W L) : Ev (tCall (sp_is_price K) [] E0 (tCons ta (tCons tb tNil))) σ H (oI K (.bool true)) := ev_call (W, L) (eva_cons h (eva_cons k eva_nil)) ⟨hw, hl⟩
def sp_check_price (K : PySem.W.Frag) : Sp := spD (α := Web × Fr) (fun a => [oI K (webD a.1), oI K (frD a.2)]) (fun a => WebOk a.1 ∧ PrOk a.1 a.2) fun _ => oI K .none
theorem at_check_price (T : Tx K mg) : At P w K mg base 4 "check_price" ["web", "price"] (sp_check_price K) := by
  refine at_of T.d_check_price sc_check_price (fun _ => rfl) fun f cdv A outer s H vs Q E a hr hp ha q => ?_
  refine ⟨_, (pss_one (ps_if (pt_not (pt_val (pe_at (at_is_price T) (hr.mono (by decide)) (by rfl) (pa_cons (pv 0) (pa_cons (pv 1) pa_nil))))) (pss_one ps_never) pss_nil)), ?_⟩
  walk_at "nk"
  obtain ⟨v1, v2, rfl, h1, h2⟩ := oall2 ha
  exact s_when (b := false) (evb_not (a := true) (evb_B (ev_is_price (ev_varI rfl h1) (ev_varI rfl h2) hp.1 hp.2))) (fun e => nomatch e) fun _ H1 s1 => q _ H1 s1 Im.non
theorem ev_check_price {σ : L2.St} {H : Hp} {ta tb : TE} {W : Web} {L : Fr} (h : Ev ta σ H (oI K (webD W))) (k : Ev tb σ H (oI K (frD L))) (hw : WebOk W) (hl : PrOk W L) : Ev (tCall (sp_check_price K) [] E0 (tCons ta (tCons tb tNil))) σ H (oI K .none) := ev_call (W, L) (eva_cons h (eva_cons k eva_nil)) ⟨hw, hl⟩
def sp_sizes_at (K : PySem.W.Frag) : Sp := spD (α := Web × Fr) (fun a => [oI K (webD a.1), oI K (frD a.2)]) (fun a => WebOk a.1 ∧ PrOk a.1 a.2) fun a => oI K (sizesD a.1 a.2)
theorem take_map {α β : Type} {l : List α} {i : Nat} {a : α} (f : α → β) (h : l[i]? = some a) : (l.map f).take (i + 1) = (l.map f).take i ++ [f a] := by
  rw [List.take_add_one, List.getElem?_map, h]
  rfl
theorem get_map {α β : Type} {l : List α} {f : α → β} {i : Nat} {b : β} (h : (l.map f)[i]? = some b) : ∃ a, l[i]? = some a ∧ f a = b ∧ a ∈ l := by
  rw [List.getElem?_map] at h
  cases q : l[i]? with
  | none => rw [q] at h; cases h
  | some a =>
    rw [q] at h
    exact ⟨a, rfl, Option.some.inj h, List.mem_of_getElem? q⟩
theorem len_take_map {α β : Type} (l : List α) (f : α → β) (i n : Nat) (h : l.length ≤ n) : ((l.map f).take i).length ≤ n := by
  rw [List.length_take, List.length_map]
  omega
theorem at_sizes_at (T : Tx K mg) : At P w K mg base 5 "sizes_at" ["web", "price"] (sp_sizes_at K) := by
  refine at_of T.d_sizes_at sc_sizes_at (fun _ => rfl) fun f cdv A outer s H vs Q E a hr hp ha q => ?_
  refine ⟨_, (pss_cons (ps_expr (pe_at (at_check_price T) (hr.mono (by decide)) (by rfl) (pa_cons (pv 0) (pa_cons (pv 1) pa_nil))))
 (pss_cons (ps_set (i := 2) sc_sizes_at.nd rfl (Or.inl rfl) (pe_lst pa_nil))
 (pss_cons (ps_set (i := 3) sc_sizes_at.nd rfl (Or.inl rfl) (pe_lst pa_nil))
 (pss_cons (ps_for PassesOwn.never rfl (show PI _ _ _ (iTup K _) from pi_tup (pe_ix (r := rIxT K) ix_tup (pv 0) pe_int (fun _ _ => rfl))) (show PG _ _ (gTup K 5 _) from pg_tup rfl (pgs_cons (pg_name (i := 4) sc_sizes_at.nd rfl (Or.inl rfl)) (pgs_cons (pg_name (i := 5) sc_sizes_at.nd rfl (Or.inl rfl)) (pgs_cons (pg_name (i := 6) sc_sizes_at.nd rfl (Or.inl rfl)) (pgs_cons (pg_name (i := 7) sc_sizes_at.nd rfl (Or.inl rfl)) (pgs_cons (pg_name (i := 8) sc_sizes_at.nd rfl (Or.inl rfl)) pgs_nil)))))) (pss_cons (ps_expr (pe_bm PySem.F.plainAttrs_list PySem.F.slot_list_append PySem.F.type_list_append mt_append (pv 2) (pa_cons (pe_at (at_plus T) (hr.mono (by decide)) (by rfl) (pa_cons (pe_at (at_fraction T) (hr.mono (by decide)) (by rfl) (pa_cons (pv 5) (pa_cons pe_int pa_nil))) (pa_cons (pe_at (at_times T) (hr.mono (by decide)) (by rfl) (pa_cons (pe_at (at_fraction T) (hr.mono (by decide)) (by rfl) (pa_cons (pv 6) (pa_cons pe_int pa_nil))) (pa_cons (pv 1) pa_nil))) pa_nil))) pa_nil)))
 (pss_one (ps_expr (pe_bm PySem.F.plainAttrs_list PySem.F.slot_list_append PySem.F.type_list_append mt_append (pv 3) (pa_cons (pe_at (at_minus T) (hr.mono (by decide)) (by rfl) (pa_cons (pe_at (at_fraction T) (hr.mono (by decide)) (by rfl) (pa_cons (pv 7) (pa_cons pe_int pa_nil))) (pa_cons (pe_at (at_times T) (hr.mono (by decide)) (by rfl) (pa_cons (pe_at (at_fraction T) (hr.mono (by decide)) (by rfl) (pa_cons (pv 8) (pa_cons pe_int pa_nil))) (pa_cons (pv 1) pa_nil))) pa_nil))) pa_nil))))))
 (pss_one (ps_ret (pe_tup (pa_cons (pe_callTy (r := rTupleOf K) cr_tupleOf (by rfl) T.m_tuple (by decide +kernel) (pa_cons (pv 2) pa_nil)) (pa_cons (pe_callTy (r := rTupleOf K) cr_tupleOf (by rfl) T.m_tuple (by decide +kernel) (pa_cons (pe_lc rfl sc_sizes_at.nd (show PI _ _ _ (iTup K _) from pi_tup (pe_ix (r := rIxT K) ix_tup (pv 0) pe_int (fun _ _ => rfl))) (blkOk_by (N := N_sizes_at) (sc := defScope s_sizes_at) (own := [("one", 5), ("other", 7), ("size", 9)]) (by decide +kernel)) (fun _ _ _ _ _ => (show PG _ _ (gTup K 3 _) from pg_tup rfl (pgs_cons (pg_name (i := 5) sc_sizes_at.nd rfl (Or.inl rfl)) (pgs_cons (pg_name (i := 7) sc_sizes_at.nd rfl (Or.inl rfl)) (pgs_cons (pg_name (i := 9) sc_sizes_at.nd rfl (Or.inl rfl)) pgs_nil))))) (fun _ _ _ _ _ => pts_nil) (fun _ _ _ _ _ => (pe_tup (pa_cons (pv 9) (pa_cons pe_int pa_nil))))) pa_nil)) (pa_cons (pe_callTy (r := rTupleOf K) cr_tupleOf (by rfl) T.m_tuple (by decide +kernel) (pa_cons (pv 3) pa_nil)) pa_nil)))))))))), ?_⟩
  walk_at "nk"
  obtain ⟨v1, v2, rfl, h1, h2⟩ := oall2 ha
  obtain ⟨W, L⟩ := a
  have hw : WebOk W := hp.1
  have hl : PrOk W L := hp.2
  have h1 : Im K H v1 (webD W) := h1
  have h2 : Im K H v2 (frD L) := h2
  refine q_drop (ev_check_price (ev_varI rfl h1) (ev_varI rfl h2) hw hl) fun _ H1 s1 _ => ?_
  refine q_set (ev_nil (K := K)) fun vi H2 s2 p2 => ?_
  obtain ⟨li, _, rfl, n2, e2, p2'⟩ := p2
  cases p2'
  refine q_set (ev_nil (K := K)) fun vo H3 s3 p3 => ?_
  obtain ⟨lo, _, rfl, n3, e3, p3'⟩ := p3
  cases p3'
  have s03 := (s1.trans s2).trans s3
  have e2' := s3 _ _ e2
  have nio : li ≠ lo := ne_of_none e2 n3
  have fi : H li = none := s1.free n2
  have fo : H lo = none := (s1.trans s2).free n3
  refine q_for (ds := W.places.map placeD) (evi_tup (ev_ixT (ds := [.int W.top, .tuple (W.places.map placeD), .tuple (W.ties.map tieD)]) (ev_varI rfl (Im.same s03 h1)) ev_int rfl)) fun H4 s4 => ?_
  refine ⟨fun i σ' H' => ∃ x4 x5 x6 x7 x8 x9 xs ys, σ' = [some v1, some v2, some (.ref li), some (.ref lo), x4, x5, x6, x7, x8, x9] ∧ Same H H' ∧ TupKeep H4 H' ∧ H' li = some (.lst xs) ∧ H' lo = some (.lst ys) ∧
      ImAll K H' xs ((W.places.map fun z => frD (intoF L z)).take i) ∧ ImAll K H' ys ((W.places.map fun z => frD (outF L z)).take i),
    ⟨_, _, _, _, _, _, [], [], rfl, s03.trans s4, TupKeep.refl _, s4 _ _ e2', s4 _ _ e3, .nil, .nil⟩, fun i σ' H' h => by obtain ⟨_, _, _, _, _, _, _, _, _, _, k, _⟩ := h; exact k, ?_, ?_⟩
  · intro i d x σ' H' H'' hd hP sm hx
    obtain ⟨x4, x5, x6, x7, x8, x9, xs, ys, rfl, sH, tk, ei, eo, ii, io⟩ := hP
    obtain ⟨z, hz, rfl, hm⟩ := get_map hd
    obtain ⟨⟨a1, a2⟩, ⟨b1, b2⟩, ⟨d1, d2⟩, c1, c2⟩ := hw.pl z hm
    have c0 : 0 ≤ z.c := by
      have := Int.mul_nonneg (Int.le_of_lt hw.tp.1) d1
      omega
    have sm' := sH.trans sm
    have pr := Im.same sm' h2
    have bL : Bf 1000 L := canon_bf (hl.bt1 hw) hl.bt2
    have one : Bt 8000 1 := bt_small (by decide) (by decide) (by decide)
    have nz : ∀ {k : Int}, 0 ≤ k ∧ k ≤ 100000 → Bf 1000 (red k 1) := fun hk => (int_fw hl hk).bf hl.pos hl.bt2
    have nm : ∀ {k : Int}, 0 ≤ k ∧ k ≤ 100000 → Bf 1000 (fTimes (red k 1) L) := fun hk => (mul_fw hw hl hk).bf hl.pos hl.bt2
    have r1 : ∀ k : Int, 0 < (red k 1).2 := fun k => (red_fv (by decide)).can.1
    have t1 : ∀ {k : Int}, 0 ≤ k ∧ k ≤ 100000 → 0 < (fTimes (red k 1) L).2 := fun hk => (mul_fw hw hl hk).pos
    refine g_names5 hx fun u4 u5 u6 u7 u8 k4 k5 k6 k7 k8 => ?_
    refine q_app (sm _ _ ei) (ev_varV rfl) (P := oI K (frD (intoF L z))) (ev_plus (x := red z.a 1) (y := fTimes (red z.b 1) L) (ev_fraction (ev_varI rfl k5) ev_int (by decide) one)
      (ev_times (x := red z.b 1) (y := L) (ev_fraction (ev_varI rfl k6) ev_int (by decide) one) (ev_varI rfl pr) (nz ⟨b1, by omega⟩) bL (r1 _) hl.pos) (nz ⟨a1, by omega⟩) (nm ⟨b1, by omega⟩) (r1 _) (t1 ⟨b1, by omega⟩))
      (by rw [ii.length]; exact Nat.lt_of_le_of_lt (len_take_map _ _ _ 8 hw.np) (by decide)) fun u H5 s5 p5 => ?_
    have k5' : TupKeep H5 (upd H5 li (.lst (xs ++ [u]))) := tk_upd (s5 _ _ (sm _ _ ei)) trivial
    have sH5 : Same H (upd H5 li (.lst (xs ++ [u]))) := same_mut ((sm'.trans s5)) fi
    have eo5 : (upd H5 li (.lst (xs ++ [u]))) lo = some (.lst ys) := by rw [upd_ne nio.symm]; exact s5 _ _ (sm _ _ eo)
    refine s_app eo5 (ev_varV rfl) (P := oI K (frD (outF L z))) (ev_minus (x := red z.c 1) (y := fTimes (red z.d 1) L) (ev_fraction (ev_varI rfl ((k7.same s5).keep k5')) ev_int (by decide) one)
      (ev_times (x := red z.d 1) (y := L) (ev_fraction (ev_varI rfl ((k8.same s5).keep k5')) ev_int (by decide) one) (ev_varI rfl (Im.same sH5 h2)) (nz ⟨d1, by omega⟩) bL (r1 _) hl.pos) (nz ⟨c0, c2⟩) (nm ⟨d1, by omega⟩) (r1 _) (t1 ⟨d1, by omega⟩))
      (by rw [io.length]; exact Nat.lt_of_le_of_lt (len_take_map _ _ _ 8 hw.np) (by decide)) fun u2 H6 s6 p6 => ?_
    have k6' : TupKeep H6 (upd H6 lo (.lst (ys ++ [u2]))) := tk_upd (s6 _ _ eo5) trivial
    have tk56 : TupKeep H'' (upd H6 lo (.lst (ys ++ [u2]))) := (((tk_same s5).trans k5').trans (tk_same s6)).trans k6'
    refine ⟨some u4, some u5, some u6, some u7, some u8, x9, xs ++ [u], ys ++ [u2], rfl, same_mut (sH5.trans s6) fo, (tk.trans (tk_same sm)).trans tk56, ?_, upd_same, ?_, ?_⟩
    · rw [upd_ne nio]
      exact s6 _ _ upd_same
    · rw [take_map _ hz]
      exact ((ii.same sm).keep tk56).snoc (((Im.keep k5' p5).same s6).keep k6')
    · rw [take_map _ hz]
      exact ((io.same sm).keep tk56).snoc (Im.keep k6' p6)
  · intro σ' H' hP
    obtain ⟨x4, x5, x6, x7, x8, x9, xs, ys, rfl, sH, tk, ei, eo, ii, io⟩ := hP
    rw [List.take_of_length_le (by rw [List.length_map, List.length_map]; exact Nat.le_refl _)] at ii io
    have ee : W.places.map (fun z => frD (intoF L z)) = (W.places.map (intoF L)).map frD := by rw [List.map_map]; rfl
    have eo' : W.places.map (fun z => frD (outF L z)) = (W.places.map (outF L)).map frD := by rw [List.map_map]; rfl
    have et : W.ties.map (fun t => frD (thruF t)) = (W.ties.map thruF).map frD := by rw [List.map_map]; rfl
    rw [ee] at ii
    rw [eo'] at io
    exact s_ret (ev_tup3 (ev_tupleL (ev_varL rfl ei ii)) (ev_tupleL (Ev.ls (ev_lcmA W.ties tieD (fun t => frD (thruF t))
      (evi_tup (ev_ixT (i := 2) (ds := [.int W.top, .tuple (W.places.map placeD), .tuple (W.ties.map tieD)]) (ev_varI (i := 0) rfl (Im.same sH h1)) ev_int rfl)) (by have := hw.nt; omega)
      (fun t x H1 ht s p => g_names3 p fun u1 u2 u3 _ _ k3 => ⟨rfl, Same.refl _, ev_tup2 (ev_varI rfl k3) ev_int⟩) (gm_tup (gm_cons gm_name (gm_cons gm_name (gm_cons gm_name gm_nil)))) et))) (ev_tupleL (ev_varL rfl eo io))) fun v H7 s7 p7 => q v H7 (sH.trans s7) p7
theorem ev_sizes_at {σ : L2.St} {H : Hp} {ta tb : TE} {W : Web} {L : Fr} (h : Ev ta σ H (oI K (webD W))) (k : Ev tb σ H (oI K (frD L))) (hw : WebOk W) (hl : PrOk W L) : Ev (tCall (sp_sizes_at K) [] E0 (tCons ta (tCons tb tNil))) σ H (oI K (sizesD W L)) := ev_call (W, L) (eva_cons h (eva_cons k eva_nil)) ⟨hw, hl⟩
end
end Cut
end
section
namespace Cut
open PySem PySem.Spec PyProof.Rows L2
local macro_rules | `(tactic| walk_at "nk") => `(tactic| first | dsimp only [cxOf, Cx.nox, Cx.wish, Cx.blk] | skip)
local macro_rules | `(tactic| walk_at "im") => `(tactic| first
  | assumption
  | exact Im.int _ | exact Im.str _ | exact Im.bl _ | exact Im.non
  | (refine Im.same (by assumption) ?_; walk_at "im"))
local macro_rules | `(tactic| walk_at "side") => `(tactic| first | assumption | rfl | omega)
local macro_rules | `(tactic| walk_at "ev") => `(tactic| first
  | (with_reducible exact ev_int) | (with_reducible exact ev_str) | (with_reducible exact ev_bl) | (with_reducible exact ev_non)
  | ((with_reducible apply ev_varI); rfl; walk_at "im")
  | ((with_reducible apply ev_ixT); walk_at "ev"; walk_at "ev"; walk_at "side")
  | ((with_reducible apply ev_add); walk_at "ev"; walk_at "ev")
  | ((with_reducible apply ev_sub); walk_at "ev"; walk_at "ev")
  | ((with_reducible apply ev_mul); walk_at "ev"; walk_at "ev"; walk_at "side")
  | ((with_reducible apply ev_div); walk_at "ev"; walk_at "ev"; walk_at "side")
  | ((with_reducible apply ev_mod); walk_at "ev"; walk_at "ev"; walk_at "side")
  | ((with_reducible apply ev_eqI); walk_at "ev"; walk_at "ev")
  | ((with_reducible apply ev_neI); walk_at "ev"; walk_at "ev")
  | ((with_reducible apply ev_eqS); walk_at "ev"; walk_at "ev")
  | ((with_reducible apply ev_neS); walk_at "ev"; walk_at "ev")
  | ((with_reducible apply ev_cmp); walk_at "ev"; walk_at "ev")
  | ((with_reducible apply ev_tup1); walk_at "ev")
  | ((with_reducible apply ev_tup2); walk_at "ev"; walk_at "ev")
  | ((with_reducible apply ev_tup3); walk_at "ev"; walk_at "ev"; walk_at "ev")
  | ((with_reducible apply ev_tup4); walk_at "ev"; walk_at "ev"; walk_at "ev"; walk_at "ev")
  | ((with_reducible apply ev_tup5); walk_at "ev"; walk_at "ev"; walk_at "ev"; walk_at "ev"; walk_at "ev")
  | ((with_reducible apply ev_lenT); walk_at "ev")
  | ((with_reducible apply ev_abs); walk_at "ev")
  | ((with_reducible apply ev_tupleL); walk_at "ev")
  | ((with_reducible apply ev_notV); walk_at "ev")
  | assumption)

/-! dicts of lists, by text keys -/
def DictL (K : PySem.W.Frag) (H : Hp) (d : Addr) (R : Str → List PyData) (kvs : List (Key × V)) : Prop :=
  H d = some (.dK kvs) ∧ ∀ x, match valV kvs (.inr x) with
    | none => R x = []
    | some v => LsAt K H v (R x)
theorem DictL.same {K : PySem.W.Frag} {H H' : Hp} {d : Addr} {R : Str → List PyData} {kvs : List (Key × V)} (h : DictL K H d R kvs) (s : Same H H') : DictL K H' d R kvs := by
  refine ⟨s _ _ h.1, fun x => ?_⟩
  have := h.2 x
  cases e : valV kvs (.inr x) with
  | none => rw [e] at this; exact this
  | some v => rw [e] at this; exact LsAt.same this s
def oD (K : PySem.W.Frag) (R : Str → List PyData) : Ob := ⟨fun v H => ∃ d kvs, v = .ref d ∧ DictL K H d R kvs, fun _ _ _ s ⟨d, kvs, e, h⟩ => ⟨d, kvs, e, h.same s⟩⟩
/-- .. that are ours to change: none of its lists is known to B, no two are one -/
structure DictM (K : PySem.W.Frag) (B H : Hp) (d : Addr) (R : Str → List PyData) (kvs : List (Key × V)) : Prop where
  l : DictL K H d R kvs
  new : ∀ x v, valV kvs (.inr x) = some v → ∃ a, v = .ref a ∧ B a = none
  inj : ∀ x y v, valV kvs (.inr x) = some v → valV kvs (.inr y) = some v → x = y
section
variable {K : PySem.W.Frag} {σ : L2.St} {B H H' : Hp} {td ty te : TE} {d : Addr} {R : Str → List PyData} {kvs : List (Key × V)} {x : Str} {e : PyData} {D : Ends} {tz : TS}
theorem DictM.same (h : DictM K B H d R kvs) (s : Same H H') : DictM K B H' d R kvs := ⟨h.l.same s, h.new, h.inj⟩
def addAt (R : Str → List PyData) (x : Str) (e : PyData) : Str → List PyData := fun z => if z = x then R x ++ [e] else R z
theorem lsat_upd {H : Hp} {v : V} {ds : List PyData} {a : Addr} {o o' : HO} (h : LsAt K H v ds) (ha : H a = some o) (lo : Loose o) (ne : v ≠ .ref a) : LsAt K (upd H a o') v ds := by
  obtain ⟨b, xs, rfl, h1, h2⟩ := h
  exact ⟨b, xs, rfl, by rw [upd_ne fun q => ne (by rw [q])]; exact h1, h2.keep (tk_upd ha lo)⟩
theorem s_setd (M : DictM K B H d R kvs) (hB : B d = none) (sB : Same B H) (hn : kvs.length < 100000) (hlen : (R x).length < 100000)
    (hd : Ev td σ H (oV (.ref d))) (hy : Ev ty σ H (oI K (.str x))) (he : ∀ H', TupKeep H H' → Same B H' → Ev te σ H' (oI K e))
    (k : ∀ H' kvs', Same B H' → TupKeep H H' → DictM K B H' d (addAt R x e) kvs' → kvs'.length ≤ kvs.length + 1 → D.nx σ H') : tDrop (tBM K "list" rAppend (tDSetd td ty (tLst tNil)) (tCons te tNil)) D σ H := by
  refine hd H (Same.refl H) _ fun v H1 s1 e1 => ?_
  obtain rfl : v = .ref d := e1
  refine ⟨d, rfl, .inl ⟨kvs, .inl (s1 _ _ M.l.1)⟩, ?_⟩
  refine hy H1 s1 _ fun y H2 s2 p2 => ?_
  refine ⟨Nat.zero_le _, fun z hz => ?_⟩
  have s3 : Same H (upd H2 z (.lst [])) := (s1.trans s2).trans (same_new hz)
  have hz0 : H z = none := (s1.trans s2).free hz
  have hzB : B z = none := sB.free hz0
  have M3 := M.same s3
  generalize eH : upd H2 z (.lst []) = H3 at s3 M3
  have ez : H3 z = some (.lst []) := by rw [← eH, upd_same]
  refine ⟨kvs, .inr x, M3.l.1, by rw [Im.str_inv p2]; rfl, sz_lt hn, fun w hw => ?_, fun hw => ?_⟩
  · obtain ⟨l, rfl, nl⟩ := M3.new x w hw
    have L := M3.l.2 x
    rw [hw] at L
    obtain ⟨l', xs, el, hl, hi⟩ := L
    cases el
    refine ⟨.inl ⟨rfl, _, SqL.of hl⟩, ?_⟩
    refine he H3 (tk_same s3) (sB.trans s3) H3 (Same.refl _) _ fun u H4 s4 p4 => ?_
    refine ⟨l, xs, u, rfl, rfl, s4 _ _ hl, by rw [hi.length]; exact sz_lt hlen, ?_⟩
    have k5 : TupKeep H4 (upd H4 l (.lst (xs ++ [u]))) := tk_upd (s4 _ _ hl) trivial
    have dl : d ≠ l := ne_of M3.l.1 hl (by intro q; cases q)
    have M4 := M3.same s4
    refine k _ kvs (same_mut ((sB.trans s3).trans s4) nl) (((tk_same s3).trans (tk_same s4)).trans k5) ⟨⟨by rw [upd_ne dl]; exact M4.l.1, fun y => ?_⟩, M3.new, M3.inj⟩ (Nat.le_succ _)
    by_cases hy : y = x
    · subst hy
      rw [hw]
      show LsAt K _ (V.ref l) (addAt R y e y)
      unfold addAt
      rw [if_pos rfl]
      exact ⟨l, _, rfl, upd_same, ((hi.same s4).keep k5).snoc (Im.keep k5 p4)⟩
    · have L2 := M4.l.2 y
      cases q : valV kvs (.inr y) with
      | none =>
        rw [q] at L2
        show addAt R x e y = []
        unfold addAt
        rw [if_neg hy]
        exact L2
      | some w2 =>
        rw [q] at L2
        show LsAt K _ w2 (addAt R x e y)
        unfold addAt
        rw [if_neg hy]
        refine lsat_upd L2 (s4 _ _ hl) trivial fun q2 => ?_
        subst q2
        exact hy (M3.inj y x _ q hw)
  · have dz : d ≠ z := ne_of M3.l.1 ez (by intro q; cases q)
    have k4 : TupKeep H3 (upd H3 d (.dK (putK kvs (.inr x) (.ref z)))) := tk_upd M3.l.1 trivial
    have sB4 : Same B (upd H3 d (.dK (putK kvs (.inr x) (.ref z)))) := same_mut (sB.trans s3) hB
    have ez4 : (upd H3 d (.dK (putK kvs (.inr x) (.ref z)))) z = some (.lst []) := by rw [upd_ne dz.symm]; exact ez
    refine ⟨.inl ⟨rfl, _, SqL.of ez4⟩, ?_⟩
    refine he _ ((tk_same s3).trans k4) sB4 _ (Same.refl _) _ fun u H5 s5 p5 => ?_
    refine ⟨z, [], u, rfl, rfl, s5 _ _ ez4, by decide, ?_⟩
    have k6 : TupKeep H5 (upd H5 z (.lst ([] ++ [u]))) := tk_upd (s5 _ _ ez4) trivial
    have Rx : R x = [] := by
      have := M3.l.2 x
      rw [hw] at this
      exact this
    have old : ∀ y v, valV kvs (.inr y) = some v → v ≠ .ref z := fun y v hv q => by
      have L := M3.l.2 y
      rw [hv] at L
      -- the list z is new
      have L0 := M.l.2 y
      rw [hv] at L0
      obtain ⟨l, xs, e1, h1, _⟩ := L0
      rw [q] at e1
      cases e1
      rw [hz0] at h1
      cases h1
    refine k _ (putK kvs (.inr x) (.ref z)) (same_mut (sB4.trans s5) hzB) ((((tk_same s3).trans k4).trans (tk_same s5)).trans k6) ⟨⟨?_, fun y => ?_⟩, fun y v hv => ?_, fun y y' v hv hv' => ?_⟩ (length_putK kvs _ _)
    · rw [upd_ne dz]
      exact s5 _ _ upd_same
    · rw [valV_put]
      by_cases hy : y = x
      · subst hy
        rw [if_pos rfl]
        show LsAt K _ (V.ref z) (addAt R y e y)
        unfold addAt
        rw [if_pos rfl, Rx]
        exact ⟨z, _, rfl, upd_same, .one (Im.keep k6 p5)⟩
      · rw [if_neg fun q => hy (Sum.inr.inj q)]
        have L2 := M3.l.2 y
        cases q : valV kvs (.inr y) with
        | none =>
          rw [q] at L2
          show addAt R x e y = []
          unfold addAt
          rw [if_neg hy]
          exact L2
        | some w2 =>
          rw [q] at L2
          show LsAt K _ w2 (addAt R x e y)
          unfold addAt
          rw [if_neg hy]
          have ne1 : w2 ≠ .ref d := fun q2 => by
            obtain ⟨l, xs, e1, h1, _⟩ := L2
            rw [q2] at e1
            cases e1
            rw [M3.l.1] at h1
            cases h1
          exact lsat_upd ((lsat_upd L2 M3.l.1 trivial ne1).same s5) (s5 _ _ ez4) trivial (old y w2 q)
    · rw [valV_put] at hv
      by_cases hy : y = x
      · rw [if_pos (by rw [hy])] at hv
        cases hv
        exact ⟨z, rfl, hzB⟩
      · rw [if_neg fun q => hy (Sum.inr.inj q)] at hv
        exact M3.new y v hv
    · rw [valV_put] at hv hv'
      by_cases hy : y = x
      · by_cases hy' : y' = x
        · rw [hy, hy']
        · rw [if_pos (by rw [hy])] at hv
          rw [if_neg fun q => hy' (Sum.inr.inj q)] at hv'
          cases hv
          exact absurd rfl (old y' _ hv')
      · by_cases hy' : y' = x
        · rw [if_neg fun q => hy (Sum.inr.inj q)] at hv
          rw [if_pos (by rw [hy'])] at hv'
          cases hv'
          exact absurd rfl (old y _ hv)
        · rw [if_neg fun q => hy (Sum.inr.inj q)] at hv
          rw [if_neg fun q => hy' (Sum.inr.inj q)] at hv'
          exact M3.inj y y' v hv hv'
theorem q_setd (M : DictM K B H d R kvs) (hB : B d = none) (sB : Same B H) (hn : kvs.length < 100000) (hlen : (R x).length < 100000)
    (hd : Ev td σ H (oV (.ref d))) (hy : Ev ty σ H (oI K (.str x))) (he : ∀ H', TupKeep H H' → Same B H' → Ev te σ H' (oI K e))
    (k : ∀ H' kvs', Same B H' → TupKeep H H' → DictM K B H' d (addAt R x e) kvs' → kvs'.length ≤ kvs.length + 1 → tz D σ H') : tSeq (tDrop (tBM K "list" rAppend (tDSetd td ty (tLst tNil)) (tCons te tNil))) tz D σ H := s_setd (D := { D with nx := tz D }) M hB sB hn hlen hd hy he k
/-- a new dict -/
theorem q_dnewK {i : Nat} (k : ∀ d H1, Same H H1 → H d = none → H1 d = some (.dK []) → tz D (σ.set i (some (.ref d))) H1) : tSeq (tAsg tDNewK (gName i)) tz D σ H := fun p hp => k p _ (same_new hp) hp upd_same
/-- xs[i] = v of a list of ours -/
theorem s_setL {l : Addr} {xs : List V} {ds : List PyData} {j : Nat} {to ti : TE} {dd : PyData} (hl : H l = some (.lst xs)) (hi : ImAll K H xs ds) (h : Ev te σ H (oI K dd)) (ho : Ev to σ H (oV (.ref l))) (hx : Ev ti σ H (oI K (.int (j : Int)))) (hj : j < ds.length)
    (k : ∀ ys H1, Same H H1 → ImAll K (upd H1 l (.lst ys)) ys (ds.set j dd) → D.nx σ (upd H1 l (.lst ys))) : tAsg te (gSub to ti rSetL) D σ H := by
  refine h H (Same.refl H) _ fun v H1 s1 p1 => ?_
  refine ho H1 s1 _ fun o H2 s2 e2 => ?_
  obtain rfl : o = .ref l := e2
  refine hx H2 (s1.trans s2) _ fun i H3 s3 p3 => ?_
  have s03 := (s1.trans s2).trans s3
  refine ⟨l, xs, j, j, rfl, Im.int_inv p3, s03 _ _ hl, ?_, ?_⟩
  · unfold ixN
    rw [if_pos (Int.natCast_nonneg j), if_pos (by rw [hi.length]; exact Int.ofNat_lt.mpr hj)]
    rfl
  · have kk : TupKeep H3 (upd H3 l (.lst (xs.set j v))) := tk_upd (s03 _ _ hl) trivial
    exact k _ H3 s03 (((hi.same s03).set j (p1.same (s2.trans s3))).keep kk)
/-! enumerate over a list -/
def enumD (ds : List PyData) : List PyData := ds.zipIdx.map fun z => .tuple [.int (z.2 : Nat), z.1]
theorem enumD_get {ds : List PyData} {i : Nat} {d : PyData} (h : ds[i]? = some d) : (enumD ds)[i]? = some (.tuple [.int (i : Nat), d]) := by
  unfold enumD
  rw [List.getElem?_map, List.getElem?_zipIdx, h]
  simp
theorem enumD_inv {ds : List PyData} {i : Nat} {y : PyData} (h : (enumD ds)[i]? = some y) : ∃ d, ds[i]? = some d ∧ y = .tuple [.int (i : Nat), d] := by
  unfold enumD at h
  rw [List.getElem?_map, List.getElem?_zipIdx] at h
  cases e : ds[i]? with
  | none => rw [e] at h; cases h
  | some d =>
    rw [e] at h
    simp at h
    exact ⟨d, rfl, h.symm⟩
theorem enumD_len (ds : List PyData) : (enumD ds).length = ds.length := by
  unfold enumD
  rw [List.length_map, List.length_zipIdx]
theorem evi_enumA {a : Addr} {xs : List V} {ds : List PyData} (h : Ev te σ H (oV (.ref a))) (h1 : H a = some (.lst xs)) (h2 : ImAll K H xs ds) : EvIA K (iEnum K (tCons te tNil)) σ H a xs (enumD ds) := fun H1 s R q => h H1 s _ fun v H2 s2 p => by
  obtain rfl : v = .ref a := p
  have k1 := s2 _ _ (s _ _ h1)
  have k2 := h2.same (s.trans s2)
  refine ⟨a, xs, rfl, SqL.of k1, q _ H2 s2 ?_⟩
  rw [enumD_len, ← h2.length]
  refine (walk_enum (K := K) (a := a) (xs := xs)).mono (fun H3 k => SqL.of k.2) fun i H x H' _ k y => ?_
  obtain ⟨T, x1, y1, rfl, nT, rfl, f1, f2⟩ := y
  obtain rfl := Option.some.inj f1
  obtain ⟨d, hd, hi⟩ := k2.back f2
  have sm := same_new (o := .tup [.int (i : Nat), y1]) nT
  exact ⟨sm, _, enumD_get hd, Im.tup (SqT.of upd_same) (.cons (Im.int _) (.one ((hi.keep k.1).same sm)))⟩
/-! the least common bottom -/
variable {P : Program} {w : World} {mg : Str → Option Value} {base : Heap}
def sp_shared_bottom (K : PySem.W.Frag) : Sp := spD (α := List Fr × Int) (fun a => [oL K (a.1.map frD)]) (fun a => 0 < a.2 ∧ Bt 600 a.2 ∧ ∀ x ∈ a.1, 0 < x.2 ∧ x.2 ∣ a.2) fun a => oE (fun b : Int => 0 < b ∧ b ∣ a.2 ∧ ∀ x ∈ a.1, x.2 ∣ b) fun b => oI K (.int b)
theorem dvd_nat {a b : Int} (hb : 0 < b) (h : a ∣ b) : a.natAbs ≤ b.natAbs := Nat.le_of_dvd (by omega) (Int.natAbs_dvd_natAbs.mpr h)
theorem at_shared_bottom (T : Tx K mg) : At P w K mg base 3 "shared_bottom" ["sizes"] (sp_shared_bottom K) := by
  refine at_of T.d_shared_bottom sc_shared_bottom (fun _ => rfl) fun f cdv A outer s H vs Q E a hr hp ha q => ?_
  refine ⟨_, (pss_cons (ps_set (i := 1) sc_shared_bottom.nd rfl (Or.inl rfl) pe_int)
 (pss_cons (ps_for PassesOwn.never rfl (show PI _ _ _ (iList K _) from pi_list (pv 0)) (pg_name (i := 2) sc_shared_bottom.nd rfl (Or.inl rfl)) (pss_one (ps_set (i := 1) sc_shared_bottom.nd rfl (Or.inl rfl) (pe_op op_mulW (pv 1) (pe_ix (r := rIxT K) ix_tup (pe_at (at_fraction T) (hr.mono (by decide)) (by rfl) (pa_cons (pe_ix (r := rIxT K) ix_tup (pv 2) pe_int (fun _ _ => rfl)) (pa_cons (pv 1) pa_nil))) pe_int (fun _ _ => rfl))))))
 (pss_one (ps_ret (pv 1))))), ?_⟩
  walk_at "nk"
  obtain ⟨v, rfl, h1⟩ := oall1 ha
  obtain ⟨l, qq⟩ := a
  have hq : 0 < qq := hp.1
  have bq : Bt 600 qq := hp.2.1
  have hx : ∀ x ∈ l, 0 < x.2 ∧ x.2 ∣ qq := hp.2.2
  have h1 : LsAt K H v (l.map frD) := h1
  refine q_set (ev_int (K := K)) fun u H1 s1 p1 => ?_
  rw [Im.int_inv p1]
  refine q_forL (evi_list (ev_varLs rfl (h1.same s1))) fun H2 a xs s2 e2 => ?_
  refine ⟨fun i σ' H' => ∃ b x2, σ' = [some v, some (.int b), x2] ∧ Same H2 H' ∧ 0 < b ∧ b ∣ qq ∧ ∀ x ∈ l.take i, x.2 ∣ b, ⟨1, none, rfl, Same.refl _, by decide, ⟨qq, by omega⟩, fun x hx => absurd hx (by simp)⟩,
    fun i σ' H' h => by obtain ⟨_, _, _, k, _⟩ := h; exact ⟨tk_same k, k _ _ e2⟩, ?_, ?_⟩
  · intro i d x σ' H' H'' hd hP sm hi
    obtain ⟨b, x2, rfl, sH, hb, hbq, hl⟩ := hP
    obtain ⟨y, hy, rfl, hm⟩ := get_map hd
    obtain ⟨y0, yq⟩ := hx y hm
    obtain ⟨g0, g1, g2, g3⟩ := lcm_step y0 hb yq hbq hq
    have bb : Bt 600 b := bq.of (dvd_nat hq hbq)
    have by2 : Bt 600 y.2 := bq.of (dvd_nat hq yq)
    have br : Bt 600 (red y.2 b).1 := by
      refine bq.of (Nat.le_trans ?_ (dvd_nat hq yq))
      exact (fv_top hb (red_fv hb)).1
    refine s_set (ev_mul (ev_varI (i := 1) rfl (Im.int b)) (ev_ixT (i := 0) (ev_fraction (ev_ixT (i := 1) (ev_varI (i := 2) rfl hi) ev_int rfl) (ev_varI (i := 1) rfl (Im.int b)) hb (bb.mono (by decide))) ev_int rfl) (bb.cm br (by decide) (by decide) (by decide))) fun u H3 s3 p3 => ?_
    rw [Im.int_inv p3]
    refine ⟨_, _, rfl, (sH.trans sm).trans s3, g0, g3, fun z hz => ?_⟩
    rw [List.take_add_one, hy] at hz
    rcases List.mem_append.mp hz with k | k
    · exact Int.dvd_trans (hl z k) g2
    · rw [List.mem_singleton.mp (show z ∈ [y] from k)]
      exact g1
  · intro σ' H' hP
    obtain ⟨b, x2, rfl, sH, hb, hbq, hl⟩ := hP
    rw [List.length_map, List.take_length] at hl
    exact s_ret (ev_varI (K := K) (i := 1) rfl (Im.int b)) fun v H3 s3 p3 => q v H3 (((s1.trans s2).trans sH).trans s3) ⟨b, ⟨hb, hbq, hl⟩, p3⟩
theorem ev_shared_bottom {ta : TE} {l : List Fr} {qq : Int} (h : Ev ta σ H (oL K (l.map frD))) (hq : 0 < qq) (bq : Bt 600 qq) (hx : ∀ x ∈ l, 0 < x.2 ∧ x.2 ∣ qq) : Ev (tCall (sp_shared_bottom K) [] E0 (tCons ta tNil)) σ H (oE (fun b : Int => 0 < b ∧ b ∣ qq ∧ ∀ x ∈ l, x.2 ∣ b) fun b => oI K (.int b)) := ev_call (l, qq) (eva_cons h eva_nil) ⟨hq, bq, hx⟩
/-! ways on -/
abbrev arcD (a : Str × Str × Fr) : PyData := .tuple [.str a.1, .str a.2.1, frD a.2.2]
abbrev stepD (st : Stp Str) : PyData := .tuple [.str st.other, .int (st.num : Nat), .bool st.along, .int st.rest]
abbrev intsD (l : List Int) : List PyData := l.map .int
structure NetA where
  as : List (Str × Str × Fr)
  ws : List Int
  gs : List Int
def NetA.net (a : NetA) : List (Ar Str) := mkNet a.as a.ws a.gs
structure NetA.Ok (a : NetA) : Prop where
  lw : a.ws.length = a.as.length
  lg : a.gs.length = a.as.length
  sm : a.as.length ≤ 40
def restD (a : NetA) : Str → List PyData := fun x => (restN a.net a.as.length x).map stepD
def sp_rests_of (K : PySem.W.Frag) : Sp := spD (α := NetA) (fun a => [oL K (a.as.map arcD), oL K (intsD a.ws), oL K (intsD a.gs)]) NetA.Ok fun a => oD K (restD a)
theorem at_rests_of (T : Tx K mg) : At P w K mg base 1 "rests_of" ["arcs", "wholes", "goes"] (sp_rests_of K) := by
  refine at_of T.d_rests_of sc_rests_of (fun _ => rfl) fun f cdv A outer s H vs Q E a hr hp ha q => ?_
  refine ⟨_, (pss_cons (ps_set (i := 3) sc_rests_of.nd rfl (Or.inl rfl) pe_dnewK)
 (pss_cons (ps_for PassesOwn.never rfl (show PI _ _ _ (iEnum K _) from pi_enum (by rfl) T.m_enumerate (pa_cons (pv 0) pa_nil)) (show PG _ _ (gTup K 2 _) from pg_tup rfl (pgs_cons (pg_name (i := 4) sc_rests_of.nd rfl (Or.inl rfl)) (pgs_cons (show PG _ _ (gTup K 3 _) from pg_tup rfl (pgs_cons (pg_name (i := 5) sc_rests_of.nd rfl (Or.inl rfl)) (pgs_cons (pg_name (i := 6) sc_rests_of.nd rfl (Or.inl rfl)) (pgs_cons (pg_name (i := 7) sc_rests_of.nd rfl (Or.inl rfl)) pgs_nil)))) pgs_nil))) (pss_cons (ps_if (pt_cmpR op_lt (pe_ix (r := rIxL K) ix_list (pv 2) (pv 4) (fun _ _ => rfl)) (pe_ix (r := rIxL K) ix_list (pv 1) (pv 4) (fun _ _ => rfl)) (nomark _)) (pss_one (ps_expr (pe_bm PySem.F.plainAttrs_list PySem.F.slot_list_append PySem.F.type_list_append mt_append (pe_dsetd (pv 3) (pv 5) (pe_lst pa_nil) ⟨rfl, rfl, rfl, rfl⟩) (pa_cons (pe_tup (pa_cons (pv 6) (pa_cons (pv 4) (pa_cons pe_bl (pa_cons (pe_op op_sub (pe_ix (r := rIxL K) ix_list (pv 1) (pv 4) (fun _ _ => rfl)) (pe_ix (r := rIxL K) ix_list (pv 2) (pv 4) (fun _ _ => rfl))) pa_nil))))) pa_nil)))) pss_nil)
 (pss_one (ps_if (pt_cmpR op_gt (pe_ix (r := rIxL K) ix_list (pv 2) (pv 4) (fun _ _ => rfl)) pe_int (nomark _)) (pss_one (ps_expr (pe_bm PySem.F.plainAttrs_list PySem.F.slot_list_append PySem.F.type_list_append mt_append (pe_dsetd (pv 3) (pv 6) (pe_lst pa_nil) ⟨rfl, rfl, rfl, rfl⟩) (pa_cons (pe_tup (pa_cons (pv 5) (pa_cons (pv 4) (pa_cons pe_bl (pa_cons (pe_ix (r := rIxL K) ix_list (pv 2) (pv 4) (fun _ _ => rfl)) pa_nil))))) pa_nil)))) pss_nil))))
 (pss_one (ps_ret (pv 3))))), ?_⟩
  walk_at "nk"
  obtain ⟨v1, v2, v3, rfl, h1, h2, h3⟩ := oall3 ha
  have h1 : LsAt K H v1 (a.as.map arcD) := h1
  have h2 : LsAt K H v2 (intsD a.ws) := h2
  have h3 : LsAt K H v3 (intsD a.gs) := h3
  refine q_dnewK fun d H1 s1 n1 e1 => ?_
  obtain ⟨la, xs, rfl, ea, ia⟩ := h1
  have lnet : a.net.length = a.as.length := mkNet_len a.as a.ws a.gs hp.lw hp.lg
  refine q_forA (evi_enumA (ev_varV rfl) (s1 _ _ ea) (ia.same s1)) fun H2 s2 => ?_
  refine ⟨fun i σ' H' => ∃ x4 x5 x6 x7 kvs, σ' = [some (.ref la), some v2, some v3, some (.ref d), x4, x5, x6, x7] ∧ Same H H' ∧ TupKeep H2 H' ∧ DictM K H H' d (fun x => (restN a.net i x).map stepD) kvs ∧ kvs.length ≤ 2 * i,
    ⟨none, none, none, none, [], rfl, s1.trans s2, TupKeep.refl _, ⟨⟨s2 _ _ e1, fun x => rfl⟩, fun x v h => (by cases h), fun x y v h => (by cases h)⟩, Nat.le_refl _⟩,
    fun i σ' H' h => by obtain ⟨_, _, _, _, _, _, k1, k2, _⟩ := h; exact ⟨k2, k1 _ _ ea⟩, ?_, ?_⟩
  · intro i dd x σ' H' H'' hd hP sm hx
    obtain ⟨x4, x5, x6, x7, kvs, rfl, sH, tk, M, hk⟩ := hP
    obtain ⟨ad, had, rfl⟩ := enumD_inv hd
    obtain ⟨ar, har, rfl, hm⟩ := get_map had
    have hi : i < a.as.length := (List.getElem?_eq_some_iff.mp har).1
    have hi40 : i < 40 := Nat.lt_of_lt_of_le hi hp.sm
    have ew : a.ws[i]? = some (a.ws[i]'(by have := hp.lw; omega)) := List.getElem?_eq_getElem _
    have eg : a.gs[i]? = some (a.gs[i]'(by have := hp.lg; omega)) := List.getElem?_eq_getElem _
    generalize a.ws[i]'(by have := hp.lw; omega) = wi at ew
    generalize a.gs[i]'(by have := hp.lg; omega) = gi at eg
    have enet := mkNet_get a.as a.ws a.gs i ar wi gi har ew eg
    have iw : atI (intsD a.ws) (i : Int) = some (.int wi) := atI_nat (by rw [List.getElem?_map, ew]; rfl)
    have ig : atI (intsD a.gs) (i : Int) = some (.int gi) := atI_nat (by rw [List.getElem?_map, eg]; rfl)
    refine g_tup hx rfl fun vs hv => ?_
    obtain ⟨u4, ut, rfl, k4, kt⟩ := imall2 hv
    refine ⟨u4, [ut], rfl, ut, [], rfl, g_names3 kt fun u5 u6 u7 k5 k6 k7 => ⟨rfl, ?_⟩⟩
    have sH2 := sH.trans sm
    have M2 := M.same sm
    -- the values of this turn, wherever
    have W : ∀ {H5 : Hp}, Same H H5 → Ev (tOp (rIxL K) (tVar 1) (tVar 4)) [some (V.ref la), some v2, some v3, some (V.ref d), some u4, some u5, some u6, some u7] H5 (oI K (.int wi)) := fun {H5} s5 =>
      ev_ixL (ev_varLs rfl (h2.same s5)) (ev_var (P := oI K (.int (i : Nat))) rfl (by rw [Im.int_inv k4]; exact Im.int _)) iw
    have G : ∀ {H5 : Hp}, Same H H5 → Ev (tOp (rIxL K) (tVar 2) (tVar 4)) [some (V.ref la), some v2, some v3, some (V.ref d), some u4, some u5, some u6, some u7] H5 (oI K (.int gi)) := fun {H5} s5 =>
      ev_ixL (ev_varLs rfl (h3.same s5)) (ev_var (P := oI K (.int (i : Nat))) rfl (by rw [Im.int_inv k4]; exact Im.int _)) ig
    have U4 : ∀ {H5 : Hp}, Ev (tVar 4) [some (V.ref la), some v2, some v3, some (V.ref d), some u4, some u5, some u6, some u7] H5 (oI K (.int (i : Nat))) := ev_var rfl (by rw [Im.int_inv k4]; exact Im.int _)
    have U5 : ∀ {H5 : Hp}, Ev (tVar 5) [some (V.ref la), some v2, some v3, some (V.ref d), some u4, some u5, some u6, some u7] H5 (oI K (.str ar.1)) := ev_var rfl (by rw [Im.str_inv k5]; exact Im.str _)
    have U6 : ∀ {H5 : Hp}, Ev (tVar 6) [some (V.ref la), some v2, some v3, some (V.ref d), some u4, some u5, some u6, some u7] H5 (oI K (.str ar.2.1)) := ev_var rfl (by rw [Im.str_inv k6]; exact Im.str _)
    have lenR : ∀ x, ((restN a.net i x).map stepD).length < 1000 := fun x => by
      rw [List.length_map]
      have := restN_len a.net x i
      omega
    -- what the turn makes of the ways
    have fin : ∀ x, (restN a.net (i + 1) x).map stepD = (restN a.net i x).map stepD ++ (stp1 x i ⟨ar.1, ar.2.1, wi, gi⟩).map stepD := fun x => by
      rw [restN_succ, List.map_append]
      unfold stpAt NetA.net
      rw [enet]
    have R1 : ∀ x, (stp1 x i ⟨ar.1, ar.2.1, wi, gi⟩).map stepD = (if x = ar.1 ∧ gi < wi then [stepD ⟨ar.2.1, i, true, wi - gi⟩] else []) ++ (if x = ar.2.1 ∧ 0 < gi then [stepD ⟨ar.1, i, false, gi⟩] else []) := fun x => by
      unfold stp1
      rw [List.map_append]
      congr 1
      · by_cases h : x = ar.1 ∧ gi < wi
        · rw [if_pos h, if_pos ⟨h.1.symm, h.2⟩]; rfl
        · rw [if_neg h, if_neg fun q => h ⟨q.1.symm, q.2⟩]; rfl
      · by_cases h : x = ar.2.1 ∧ 0 < gi
        · rw [if_pos h, if_pos ⟨h.1.symm, h.2⟩]; rfl
        · rw [if_neg h, if_neg fun q => h ⟨q.1.symm, q.2⟩]; rfl
    -- the second half
    have half : ∀ (H5 : Hp) (kvs5 : List (Key × V)), Same H H5 → TupKeep H2 H5 → DictM K H H5 d (fun x => (restN a.net i x).map stepD ++ if x = ar.1 ∧ gi < wi then [stepD ⟨ar.2.1, i, true, wi - gi⟩] else []) kvs5 → kvs5.length ≤ 2 * i + 1 →
        tIfS (tTest (tOp (rI0 fun i j => .bl (decide (j < i))) (tOp (rIxL K) (tVar 2) (tVar 4)) (tC (.int 0)))) (tDrop (tBM K "list" rAppend (tDSetd (tVar 3) (tVar 6) (tLst tNil)) (tCons (tTup (tCons (tVar 5) (tCons (tVar 4) (tCons (tC (.bl false)) (tCons (tOp (rIxL K) (tVar 2) (tVar 4)) tNil))))) tNil))) tNext
          { nx := fun σ' H' => ∃ x4 x5 x6 x7 kvs, σ' = [some (.ref la), some v2, some v3, some (.ref d), x4, x5, x6, x7] ∧ Same H H' ∧ TupKeep H2 H' ∧ DictM K H H' d (fun x => (restN a.net (i + 1) x).map stepD) kvs ∧ kvs.length ≤ 2 * (i + 1), rt := Q, ct := fun σ' H' => ∃ x4 x5 x6 x7 kvs, σ' = [some (.ref la), some v2, some v3, some (.ref d), x4, x5, x6, x7] ∧ Same H H' ∧ TupKeep H2 H' ∧ DictM K H H' d (fun x => (restN a.net (i + 1) x).map stepD) kvs ∧ kvs.length ≤ 2 * (i + 1), bk := tRet (tVar 3) { nx := fun _ H' => Q .non H', rt := Q } }
          [some (V.ref la), some v2, some v3, some (V.ref d), some u4, some u5, some u6, some u7] H5 := fun H5 kvs5 s5 t5 M5 l5 => by
      refine s_when (evb_test (ev_cmp (G s5) ev_int)) (fun hb H6 s6 => ?_) fun hb H6 s6 => ?_
      · have hb : 0 < gi := of_decide_eq_true hb
        refine s_setd (M5.same s6) n1 (s5.trans s6) (by omega) (x := ar.2.1) (e := stepD ⟨ar.1, i, false, gi⟩) ?_ (ev_varV rfl) U6 (fun H7 t7 s7 => ev_tup4 U5 U4 ev_bl (G s7)) fun H7 kvs7 s7 t7 M7 l7 => ?_
        · have := lenR ar.2.1
          show ((restN a.net i ar.2.1).map stepD ++ if ar.2.1 = ar.1 ∧ gi < wi then [stepD ⟨ar.2.1, i, true, wi - gi⟩] else []).length < 100000
          rw [List.length_append]
          have h1 : (if ar.2.1 = ar.1 ∧ gi < wi then [stepD ⟨ar.2.1, i, true, wi - gi⟩] else []).length ≤ 1 := by
            split <;> simp
          omega
        · refine ⟨_, _, _, _, kvs7, rfl, s7, (t5.trans (tk_same s6)).trans t7, ?_, by omega⟩
          have e : (fun x => (restN a.net (i + 1) x).map stepD) = addAt (fun x => (restN a.net i x).map stepD ++ if x = ar.1 ∧ gi < wi then [stepD ⟨ar.2.1, i, true, wi - gi⟩] else []) ar.2.1 (stepD ⟨ar.1, i, false, gi⟩) := by
            funext x
            unfold addAt
            rw [fin, R1]
            by_cases h : x = ar.2.1
            · rw [if_pos (c := x = ar.2.1 ∧ 0 < gi) ⟨h, hb⟩, if_pos h, h, List.append_assoc]
            · rw [if_neg (c := x = ar.2.1 ∧ 0 < gi) fun q => h q.1, if_neg h, List.append_nil]
          rw [e]
          exact M7
      · have hb : ¬ 0 < gi := of_decide_eq_false hb
        refine ⟨_, _, _, _, kvs5, rfl, s5.trans s6, t5.trans (tk_same s6), ?_, by omega⟩
        have e : (fun x => (restN a.net (i + 1) x).map stepD) = (fun x => (restN a.net i x).map stepD ++ if x = ar.1 ∧ gi < wi then [stepD ⟨ar.2.1, i, true, wi - gi⟩] else []) := by
          funext x
          rw [fin, R1, if_neg (c := x = ar.2.1 ∧ 0 < gi) fun q => hb q.2, List.append_nil]
        rw [e]
        exact M5.same s6
    refine q_when (evb_test (ev_cmp (G sH2) (W sH2))) (fun hb H6 s6 => ?_) fun hb H6 s6 => ?_
    · have hb : gi < wi := of_decide_eq_true hb
      refine s_setd (M2.same s6) n1 (sH2.trans s6) (by omega) (x := ar.1) (e := stepD ⟨ar.2.1, i, true, wi - gi⟩) (by have := lenR ar.1; omega) (ev_varV rfl) U5 (fun H7 t7 s7 => ev_tup4 U6 U4 ev_bl (ev_sub (W s7) (G s7))) fun H7 kvs7 s7 t7 M7 l7 => ?_
      refine half H7 kvs7 s7 (((tk.trans (tk_same sm)).trans (tk_same s6)).trans t7) ?_ (by omega)
      have e : (fun x => (restN a.net i x).map stepD ++ if x = ar.1 ∧ gi < wi then [stepD ⟨ar.2.1, i, true, wi - gi⟩] else []) = addAt (fun x => (restN a.net i x).map stepD) ar.1 (stepD ⟨ar.2.1, i, true, wi - gi⟩) := by
        funext x
        unfold addAt
        by_cases h : x = ar.1
        · rw [if_pos h, if_pos ⟨h, hb⟩, h]
        · rw [if_neg h, if_neg fun q => h q.1, List.append_nil]
      rw [e]
      exact M7
    · have hb : ¬ gi < wi := of_decide_eq_false hb
      refine half H6 kvs (sH2.trans s6) ((tk.trans (tk_same sm)).trans (tk_same s6)) ?_ (by omega)
      have e : (fun x => (restN a.net i x).map stepD ++ if x = ar.1 ∧ gi < wi then [stepD ⟨ar.2.1, i, true, wi - gi⟩] else []) = (fun x => (restN a.net i x).map stepD) := by
        funext x
        rw [if_neg fun q => hb q.2, List.append_nil]
      rw [e]
      exact M2.same s6
  · intro σ' H' hP
    obtain ⟨x4, x5, x6, x7, kvs, rfl, sH, tk, M, hk⟩ := hP
    rw [enumD_len, List.length_map] at M
    exact s_ret (ev_varV rfl) fun v H3 s3 p3 => q v H3 (sH.trans s3) ⟨d, kvs, p3, M.l.same s3⟩
theorem ev_rests_of {ta tb tc : TE} {a : NetA} (h : Ev ta σ H (oL K (a.as.map arcD))) (k : Ev tb σ H (oL K (intsD a.ws))) (l : Ev tc σ H (oL K (intsD a.gs))) (hp : a.Ok) : Ev (tCall (sp_rests_of K) [] E0 (tCons ta (tCons tb (tCons tc tNil)))) σ H (oD K (restD a)) := ev_call a (eva_cons h (eva_cons k (eva_cons l eva_nil))) hp
end
end Cut
end
section
namespace Cut
open PySem PySem.Spec PyProof.Rows L2
local macro_rules | `(tactic| walk_at "nk") => `(tactic| first | dsimp only [cxOf, Cx.nox, Cx.wish, Cx.blk] | skip)
local macro_rules | `(tactic| walk_at "im") => `(tactic| first
  | assumption
  | exact Im.int _ | exact Im.str _ | exact Im.bl _ | exact Im.non
  | (refine Im.same (by assumption) ?_; walk_at "im"))
local macro_rules | `(tactic| walk_at "side") => `(tactic| first | assumption | rfl | omega)
local macro_rules | `(tactic| walk_at "ev") => `(tactic| first
  | (with_reducible exact ev_int) | (with_reducible exact ev_str) | (with_reducible exact ev_bl) | (with_reducible exact ev_non)
  | ((with_reducible apply ev_varI); rfl; walk_at "im")
  | ((with_reducible apply ev_ixT); walk_at "ev"; walk_at "ev"; walk_at "side")
  | ((with_reducible apply ev_add); walk_at "ev"; walk_at "ev")
  | ((with_reducible apply ev_sub); walk_at "ev"; walk_at "ev")
  | ((with_reducible apply ev_mul); walk_at "ev"; walk_at "ev"; walk_at "side")
  | ((with_reducible apply ev_div); walk_at "ev"; walk_at "ev"; walk_at "side")
  | ((with_reducible apply ev_mod); walk_at "ev"; walk_at "ev"; walk_at "side")
  | ((with_reducible apply ev_eqI); walk_at "ev"; walk_at "ev")
  | ((with_reducible apply ev_neI); walk_at "ev"; walk_at "ev")
  | ((with_reducible apply ev_eqS); walk_at "ev"; walk_at "ev")
  | ((with_reducible apply ev_neS); walk_at "ev"; walk_at "ev")
  | ((with_reducible apply ev_cmp); walk_at "ev"; walk_at "ev")
  | ((with_reducible apply ev_tup1); walk_at "ev")
  | ((with_reducible apply ev_tup2); walk_at "ev"; walk_at "ev")
  | ((with_reducible apply ev_tup3); walk_at "ev"; walk_at "ev"; walk_at "ev")
  | ((with_reducible apply ev_tup4); walk_at "ev"; walk_at "ev"; walk_at "ev"; walk_at "ev")
  | ((with_reducible apply ev_tup5); walk_at "ev"; walk_at "ev"; walk_at "ev"; walk_at "ev"; walk_at "ev")
  | ((with_reducible apply ev_lenT); walk_at "ev")
  | ((with_reducible apply ev_abs); walk_at "ev")
  | ((with_reducible apply ev_tupleL); walk_at "ev")
  | ((with_reducible apply ev_notV); walk_at "ev")
  | assumption)

section
variable {K : PySem.W.Frag} {σ : L2.St} {H H' : Hp} {td ty te tk tv : TE} {d : Addr} {R : Str → List PyData} {kvs : List (Key × V)} {x : Str} {D : Ends} {tu tz : TS} {g : TG} {wi : TI} {v : V}
/-- {x: v} -/
def oD1 (B : Hp) (x : Str) (w : V) : Ob := ⟨fun v H => ∃ p, v = .ref p ∧ B p = none ∧ H p = some (.dK [(.inr x, w)]), fun _ _ _ s ⟨p, e, n, h⟩ => ⟨p, e, n, s _ _ h⟩⟩
theorem ev_disp1 {w : V} (hk : Ev tk σ H (oI K (.str x))) (hv : Ev tv σ H (oV w)) : Ev (tDisp [(tk, tv)]) σ H (oD1 H x w) := fun H1 s Q q p hp => by
  have sp := same_new (o := .dK []) hp
  refine hk _ (s.trans sp) _ fun u H2 s2 p2 => hv H2 ((s.trans sp).trans s2) _ fun u' H3 s3 p3 => ?_
  obtain rfl := Im.str_inv p2
  obtain rfl : u' = w := p3
  refine ⟨s3 _ _ (s2 _ _ upd_same), [(.inr x, u')], rfl, by simp, ?_⟩
  exact q _ _ (same_mut ((sp.trans s2).trans s3) hp) ⟨p, rfl, s.free hp, upd_same⟩
/-- a list whose place is no other -/
def oLp (K : PySem.W.Frag) (p : Addr → Prop) (ds : List PyData) : Ob := ⟨fun v H => ∃ a xs, v = .ref a ∧ p a ∧ H a = some (.lst xs) ∧ ImAll K H xs ds, fun _ _ _ s ⟨a, xs, e, n, h1, h2⟩ => ⟨a, xs, e, n, s _ _ h1, h2.same s⟩⟩
def EvIP (K : PySem.W.Frag) (wi : TI) (σ : L2.St) (H : Hp) (p : Addr → Prop) (ds : List PyData) : Prop :=
  ∀ H1, Same H H1 → ∀ R : It → Hp → Prop, (∀ J a xs H2, Same H1 H2 → p a → H2 a = some (.lst xs) → Walk J ds.length (fun H3 => TupKeep H2 H3 ∧ H3 a = some (.lst xs)) (YD K ds) → R J H2) → wi σ H1 R
variable {ds : List PyData} {p : Addr → Prop}
theorem evi_listP (h : Ev te σ H (oLp K p ds)) : EvIP K (iList K te) σ H p ds := fun H1 s R q => h H1 s _ fun v H2 s2 pp => by
  obtain ⟨a, xs, rfl, ha, h1, h2⟩ := pp
  refine ⟨a, rfl, ⟨xs, SqL.of h1⟩, q _ a xs H2 s2 ha h1 ?_⟩
  rw [← h2.length]
  exact (walk_list (K := K) (a := a) (xs := xs)).mono (fun H3 k => SqL.of k.2) fun i H x H' _ k ⟨e, y⟩ => by
    obtain ⟨d, hd, hi⟩ := h2.back y
    subst e
    exact ⟨Same.refl _, d, hd, hi.keep k.1⟩
theorem s_forP (hi : EvIP K wi σ H p ds) (k : ∀ H2 a xs, Same H H2 → p a → H2 a = some (.lst xs) → ∃ Pv : Nat → L2.St → Hp → Prop, Pv 0 σ H2 ∧ (∀ i σ' H', Pv i σ' H' → TupKeep H2 H' ∧ H' a = some (.lst xs)) ∧
      (∀ i d x σ' H' H'', ds[i]? = some d → Pv i σ' H' → Same H' H'' → Im K H'' x d → g x σ' H'' fun σ2 H2 => tu { D with nx := Pv (i + 1), ct := Pv (i + 1), bk := D.nx } σ2 H2) ∧ ∀ σ' H', Pv ds.length σ' H' → D.nx σ' H') : tFor wi g tu D σ H :=
  hi H (Same.refl H) _ fun J a xs H2 s2 pa h1 w => by
    obtain ⟨Pv, h0, hk, ht, hd⟩ := k H2 a xs s2 pa h1
    exact for_it w Pv h0 (fun i σ' H' _ p => hk i σ' H' p) (fun i x σ' H' H'' _ p ⟨y1, d, hd, y2⟩ => ht i d x σ' H' H'' hd p y1 y2) hd
theorem q_forP (hi : EvIP K wi σ H p ds) (k : ∀ H2 a xs, Same H H2 → p a → H2 a = some (.lst xs) → ∃ Pv : Nat → L2.St → Hp → Prop, Pv 0 σ H2 ∧ (∀ i σ' H', Pv i σ' H' → TupKeep H2 H' ∧ H' a = some (.lst xs)) ∧
      (∀ i d x σ' H' H'', ds[i]? = some d → Pv i σ' H' → Same H' H'' → Im K H'' x d → g x σ' H'' fun σ2 H2 => tu { D with nx := Pv (i + 1), ct := Pv (i + 1), bk := tz D } σ2 H2) ∧ ∀ σ' H', Pv ds.length σ' H' → tz D σ' H') : tSeq (tFor wi g tu) tz D σ H := s_forP (D := { D with nx := tz D }) hi k
theorem ev_oV (h : Ev te σ H (oV v)) (hp : ∀ H1, Same H H1 → ∀ P : Ob, True → True) : True := trivial
/-- d.get(x, []) -/
theorem ev_dgetL {w : Addr} {ys : List V} {B : Hp} (hd : Ev td σ H (oV (.ref d))) (hy : Ev ty σ H (oI K (.str x))) (L : DictL K B d R kvs) (sB : Same B H) (nw : B w = none) (ew : H w = some (.lst ys)) :
    Ev (tDGet2 td ty (tLst tNil)) σ H (oLp K (fun a => a ≠ w) (R x)) := fun H1 s Q q => hd H1 s _ fun v H2 s2 e2 => by
  obtain rfl : v = .ref d := e2
  have sB2 := (sB.trans s).trans s2
  refine ⟨d, rfl, .inl ⟨kvs, .inl (sB2 _ _ L.1)⟩, ?_⟩
  refine hy H2 (s.trans s2) _ fun y H3 s3 p3 => ?_
  obtain rfl := Im.str_inv p3
  refine ⟨by decide, fun z hz => ?_⟩
  have s4 := same_new (o := .lst []) hz
  have sB4 := (sB2.trans s3).trans s4
  refine ⟨valV kvs (.inr x), DGet.k (k := .inr x) (sB4 _ _ L.1), ?_⟩
  have Lx := L.2 x
  cases e : valV kvs (.inr x) with
  | none =>
    rw [e] at Lx
    have Lx : R x = [] := Lx
    refine q _ _ ((s2.trans s3).trans s4) ⟨z, [], rfl, ?_, upd_same, by rw [Lx]; exact .nil⟩
    rintro rfl
    rw [((s.trans s2).trans s3) _ _ ew] at hz
    cases hz
  | some u =>
    rw [e] at Lx
    obtain ⟨l, xs, rfl, h1, h2⟩ := Lx
    refine q _ _ ((s2.trans s3).trans s4) ⟨l, xs, rfl, ?_, sB4 _ _ h1, h2.same sB4⟩
    rintro rfl
    rw [h1] at nw
    cases nw
/-- d[x] -/
theorem ev_dgetV {P : Ob} {u : V} (hd : Ev td σ H (oV (.ref d))) (hy : Ev ty σ H (oI K (.str x))) (e : H d = some (.dK kvs)) (hv : valV kvs (.inr x) = some u) (hp : P.p u H) : Ev (tDGet td ty) σ H P := fun H1 s Q q =>
  hd H1 s _ fun v H2 s2 e2 => hy H2 (s.trans s2) _ fun y H3 s3 p3 => by
    obtain rfl : v = .ref d := e2
    obtain rfl := Im.str_inv p3
    have s03 := (s.trans s2).trans s3
    refine ⟨d, u, rfl, ?_, q u H3 (s2.trans s3) (P.mono _ _ _ s03 hp)⟩
    rw [← hv]
    exact DGet.k (k := .inr x) (s03 _ _ e)
/-- x not in d -/
theorem evb_notinD (hd : Ev td σ H (oV (.ref d))) (hy : Ev ty σ H (oI K (.str x))) (e : H d = some (.dK kvs)) : EvB (tTest (tDNotIn ty td)) σ H (!(valV kvs (.inr x)).isSome) := fun H1 s Q q =>
  hy H1 s _ fun y H2 s2 p2 => hd H2 (s.trans s2) _ fun v H3 s3 e3 => by
    obtain rfl : v = .ref d := e3
    obtain rfl := Im.str_inv p2
    exact ⟨d, _, rfl, DGet.k (k := .inr x) (((s.trans s2).trans s3) _ _ e), _, rfl, q H3 (s2.trans s3)⟩
/-- d[x] = v -/
theorem s_dput {P : Ob} (hn : kvs.length < 100000) (e : H d = some (.dK kvs)) (hv : Ev tv σ H P) (hd : Ev td σ H (oV (.ref d))) (hy : Ev ty σ H (oI K (.str x)))
    (k : ∀ u H1, Same H H1 → P.p u H1 → D.nx σ (upd H1 d (.dK (putK kvs (.inr x) u)))) : sDPut td ty tv D σ H := hv H (Same.refl H) _ fun u H1 s1 p1 => hd H1 s1 _ fun v H2 s2 e2 => hy H2 (s1.trans s2) _ fun y H3 s3 p3 => by
  obtain rfl : v = .ref d := e2
  obtain rfl := Im.str_inv p3
  have s03 := (s1.trans s2).trans s3
  exact ⟨d, _, rfl, DPut.k (k := .inr x) (s03 _ _ e) (sz_lt hn), k u H3 s03 (P.mono _ _ _ (s2.trans s3) p1)⟩
theorem q_dput {P : Ob} (hn : kvs.length < 100000) (e : H d = some (.dK kvs)) (hv : Ev tv σ H P) (hd : Ev td σ H (oV (.ref d))) (hy : Ev ty σ H (oI K (.str x)))
    (k : ∀ u H1, Same H H1 → P.p u H1 → tz D σ (upd H1 d (.dK (putK kvs (.inr x) u)))) : tSeq (sDPut td ty tv) tz D σ H := s_dput (D := { D with nx := tz D }) hn e hv hd hy k
end
/-! a road -/
/-- how each waiting knot was come to, in the dict -/
structure Cm (K : PySem.W.Frag) (H : Hp) (kvs : List (Key × V)) (net : List (Ar Str)) (ws : List Str) (start : Str) : Prop where
  nd : ws.Nodup
  st : ws[0]? = some start
  sub : ∀ x ∈ ws, x ∈ start :: knots net
  len : kvs.length ≤ ws.length
  key : ∀ x, (valV kvs (.inr x)).isSome = decide (x ∈ ws)
  val : ∀ x ∈ ws, x ≠ start → ∃ v prev st, valV kvs (.inr x) = some v ∧ Im K H v (.tuple [.str prev, stepD st]) ∧ Came net ws x prev st
theorem Cm.keep {K : PySem.W.Frag} {H H' : Hp} {kvs : List (Key × V)} {net : List (Ar Str)} {ws : List Str} {start : Str} (h : Cm K H kvs net ws start) (k : TupKeep H H') : Cm K H' kvs net ws start :=
  { h with val := fun x hx ne => let ⟨v, prev, st, e, i, c⟩ := h.val x hx ne; ⟨v, prev, st, e, i.keep k, c⟩ }
theorem Cm.bound {K : PySem.W.Frag} {H : Hp} {kvs : List (Key × V)} {net : List (Ar Str)} {ws : List Str} {start : Str} (h : Cm K H kvs net ws start) : ws.length ≤ 2 * net.length + 1 := by
  have := nodup_len ws (start :: knots net) h.nd h.sub
  rw [List.length_cons, knots_len] at this
  omega
/-- one more -/
theorem Cm.step {K : PySem.W.Frag} {H H' : Hp} {kvs : List (Key × V)} {net : List (Ar Str)} {ws : List Str} {start prev : Str} {st : Stp Str} {i : Nat} {u : V} (h : Cm K H kvs net ws start) (k : TupKeep H H') (hi : ws[i]? = some prev) (ok : StepOk net prev st) (hn : st.other ∉ ws)
    (hu : Im K H' u (.tuple [.str prev, stepD st])) : Cm K H' (putK kvs (.inr st.other) u) net (ws ++ [st.other]) start := by
  have hl := (List.getElem?_eq_some_iff.mp hi).1
  refine ⟨?_, get_app h.st, fun x hx => ?_, ?_, fun x => ?_, fun x hx ne => ?_⟩
  · refine List.nodup_append.mpr ⟨h.nd, by simp, fun a ha b hb e => hn ?_⟩
    rw [← List.mem_singleton.mp hb, ← e]
    exact ha
  · rcases List.mem_append.mp hx with q | q
    · exact h.sub x q
    · rw [List.mem_singleton.mp q]
      exact List.mem_cons_of_mem _ (step_knot ok)
  · have := length_putK kvs (.inr st.other) u
    have := h.len
    rw [List.length_append]
    show _ ≤ ws.length + 1
    omega
  · rw [valV_put]
    by_cases e : x = st.other
    · rw [if_pos (by rw [e]), e]
      simp
    · rw [if_neg fun q => e (Sum.inr.inj q), h.key x]
      simp [e]
  · rw [valV_put]
    by_cases e : x = st.other
    · rw [if_pos (by rw [e])]
      refine ⟨u, prev, st, rfl, hu, ⟨ok, e.symm, i, ws.length, hl, get_app hi, ?_⟩⟩
      rw [e]
      simp
    · rw [if_neg fun q => e (Sum.inr.inj q)]
      have hx : x ∈ ws := by
        rcases List.mem_append.mp hx with q | q
        · exact q
        · exact absurd (List.mem_singleton.mp q) e
      obtain ⟨v, pr, s2, e1, e2, e3⟩ := h.val x hx ne
      exact ⟨v, pr, s2, e1, e2.keep k, e3.app⟩
structure RoadA where
  n : NetA
  start : Str
  en : Str
def RoadR (net : List (Ar Str)) (start en : Str) : Option (List (Stp Str)) → Prop
  | none => ∃ R : Str → Bool, R start = true ∧ R en = false ∧ ∀ x st, R x = true → StepOk net x st → R st.other = true
  | some fs => Chain net start fs.reverse en ∧ (fs.map (·.num)).Nodup
def roadO (K : PySem.W.Frag) : Option (List (Stp Str)) → Ob
  | none => oI K .none
  | some fs => oL K (fs.map stepD)
section
variable {P : Program} {w : World} {K : PySem.W.Frag} {mg : Str → Option Value} {base : Heap}
def sp_road (K : PySem.W.Frag) : Sp := spD (α := RoadA) (fun a => [oD K (restD a.n), oI K (.str a.start), oI K (.str a.en)]) (fun a => a.n.Ok) fun a => oE (RoadR a.n.net a.start a.en) (roadO K)
theorem at_road (T : Tx K mg) : At P w K mg base 1 "road" ["rests", "start", "end"] (sp_road K) := by
  refine at_of T.d_road sc_road (fun _ => rfl) fun f cdv A outer s H vs Q E a hr hp ha q => ?_
  refine ⟨_, (pss_cons (ps_set (i := 3) sc_road.nd rfl (Or.inl rfl) (pe_disp (pps_cons (pv 1) pe_non pps_nil) (by rfl) (by rfl) (fun z => by cases z) (by decide)))
 (pss_cons (ps_set (i := 4) sc_road.nd rfl (Or.inl rfl) (pe_lst (pa_cons (pv 1) pa_nil)))
 (pss_cons (ps_set (i := 5) sc_road.nd rfl (Or.inl rfl) pe_int)
 (pss_cons (ps_while PassesOwn.never (pt_cmpR op_lt (pv 5) (pe_callB (r := rLenS K) cr_lenS (by rfl) T.m_len (by decide +kernel) (pa_cons (pv 4) pa_nil)) (nomark _)) (pss_cons (ps_for PassesOwn.never rfl (show PI _ _ _ (iList K _) from pi_list (pe_dget2 (hu_of hr) (pv 0) (pe_ix (r := rIxL K) ix_list (pv 4) (pv 5) (fun _ _ => rfl)) (pe_lst pa_nil) ⟨rfl, rfl, rfl, rfl⟩)) (pg_name (i := 6) sc_road.nd rfl (Or.inl rfl)) (pss_one (ps_if (pt_cmp (pc_dnotin (hu_of hr) (pe_ix (r := rIxT K) ix_tup (pv 6) pe_int (fun _ _ => rfl)) (pv 3))) (pss_cons (ps_dput (hu_of hr) (pv 3) (pe_ix (r := rIxT K) ix_tup (pv 6) pe_int (fun _ _ => rfl)) (pe_tup (pa_cons (pe_ix (r := rIxL K) ix_list (pv 4) (pv 5) (fun _ _ => rfl)) (pa_cons (pv 6) pa_nil))) rfl)
 (pss_one (ps_expr (pe_bm PySem.F.plainAttrs_list PySem.F.slot_list_append PySem.F.type_list_append mt_append (pv 4) (pa_cons (pe_ix (r := rIxT K) ix_tup (pv 6) pe_int (fun _ _ => rfl)) pa_nil))))) pss_nil)))
 (pss_one (ps_set (i := 5) sc_road.nd rfl (Or.inl rfl) (pe_op op_add (pv 5) pe_int)))))
 (pss_cons (ps_if (pt_cmp (pc_dnotin (hu_of hr) (pv 2) (pv 3))) (pss_one (ps_ret pe_non)) pss_nil)
 (pss_cons (ps_set (i := 7) sc_road.nd rfl (Or.inl rfl) (pe_lst pa_nil))
 (pss_cons (ps_set (i := 8) sc_road.nd rfl (Or.inl rfl) (pv 2))
 (pss_cons (ps_while PassesOwn.never (pt_cmpR op_ne (pv 8) (pv 1) (nomark _)) (pss_cons (ps_asg (pe_dget (hu_of hr) (pv 3) (pv 8) (fun _ _ => rfl)) (show PG _ _ (gTup K 2 _) from pg_tup rfl (pgs_cons (pg_name (i := 8) sc_road.nd rfl (Or.inl rfl)) (pgs_cons (pg_name (i := 6) sc_road.nd rfl (Or.inl rfl)) pgs_nil))))
 (pss_one (ps_expr (pe_bm PySem.F.plainAttrs_list PySem.F.slot_list_append PySem.F.type_list_append mt_append (pv 7) (pa_cons (pv 6) pa_nil))))))
 (pss_one (ps_ret (pv 7))))))))))), ?_⟩
  walk_at "nk"
  obtain ⟨v1, v2, v3, rfl, ⟨dr, kr, rfl, hL⟩, h2, h3⟩ := oall3 ha
  obtain ⟨N, start, en⟩ := a
  have hp : N.Ok := hp
  obtain rfl : v2 = .str start := Im.str_inv h2
  obtain rfl : v3 = .str en := Im.str_inv h3
  have hL : DictL K H dr (restD N) kr := hL
  have ln : N.net.length = N.as.length := mkNet_len N.as N.ws N.gs hp.lw hp.lg
  have sm := hp.sm
  refine q_set (ev_disp1 (K := K) (x := start) (w := .non) (ev_varI rfl (Im.str _)) (ev_c rfl)) fun vc H1 s1 p1 => ?_
  obtain ⟨c, rfl, nc, ec⟩ := p1
  refine q_set (ev_lstN (K := K) (ds := [.str start]) (eva_cons (ev_varI rfl (Im.str _)) eva_nil) (by simp)) fun vw H2 s2 p2 => ?_
  obtain ⟨lw, xs0, rfl, nw, ew, iw⟩ := p2
  obtain rfl := iw.strs (xs := [start])
  refine q_set (ev_int (K := K)) fun va H3 s3 p3 => ?_
  obtain rfl := Im.int_inv p3
  have ncw : c ≠ lw := ne_of_none (H := H1) ec nw
  have nw0 : H lw = none := s1.free nw
  refine q_while (fun m σ' H' => ∃ at' ws kvs x6, σ' = [some (.ref dr), some (.str start), some (.str en), some (.ref c), some (.ref lw), some (.int (at' : Nat)), x6, none, none] ∧ Same H H' ∧ H' c = some (.dK kvs) ∧ H' lw = some (.lst (ws.map V.str)) ∧
      Cm K H' kvs N.net ws start ∧ at' ≤ ws.length ∧ m + at' = 2 * N.net.length + 2 ∧ ∀ i x, i < at' → ws[i]? = some x → ∀ st, StepOk N.net x st → st.other ∈ ws) (2 * N.net.length + 2)
    ⟨0, [start], [(.inr start, .non)], none, rfl, (s1.trans s2).trans s3, s3 _ _ (s2 _ _ ec), s3 _ _ ew, ⟨by simp, rfl, fun x hx => by rw [List.mem_singleton.mp hx]; exact List.mem_cons_self, Nat.le_refl _, fun x => ?_, fun x hx ne => absurd (List.mem_singleton.mp hx) ne⟩, Nat.zero_le _, rfl, fun i x hi => absurd hi (by omega)⟩ ?_
  · show (valV [((.inr start : Key), V.non)] (.inr x)).isSome = _
    by_cases e : x = start
    · rw [valV_pos (by rw [e])]
      simp [e]
    · rw [valV_neg fun q => e (Sum.inr.inj q).symm]
      simp [e, valV]
  rintro m σ' H' ⟨at', ws, kvs, x6, rfl, sH, ec', ew', hC, hat, hm, hcl⟩
  have hb := hC.bound
  refine ⟨_, evb_test (ev_cmp (ev_varI (i := 5) rfl (Im.int _)) (ev_lenL (ds := ws.map .str) (ev_varL (i := 4) rfl ew' (ImAll.of_strs ws)))), fun hlt H4 s4 => ?_, fun hge H4 s4 => ?_⟩
  · -- one more knot
    have hlt : at' < ws.length := by
      have := of_decide_eq_true hlt
      rw [List.length_map] at this
      omega
    have hx : ws[at']? = some ws[at'] := List.getElem?_eq_getElem hlt
    generalize ws[at'] = x at hx
    have ec4 := s4 _ _ ec'
    have ew4 := s4 _ _ ew'
    have ix : ∀ {ws' : List Str}, ws'[at']? = some x → atI (ws'.map PyData.str) (at' : Int) = some (.str x) := fun h => atI_nat (by rw [List.getElem?_map, h]; rfl)
    refine q_forP (evi_listP (ev_dgetL (R := restD N) (x := x) (ev_varV (i := 0) rfl) (ev_ixL (ev_varL (i := 4) rfl ew4 (ImAll.of_strs ws)) (ev_varI (i := 5) rfl (Im.int _)) (ix hx)) hL (sH.trans s4) nw0 ew4)) fun H5 a xs s5 na e5 => ?_
    have er : (restD N x).length = (restN N.net N.as.length x).length := by
      unfold restD
      rw [List.length_map]
    refine ⟨fun i σ' H' => ∃ ws2 kvs x6, σ' = [some (.ref dr), some (.str start), some (.str en), some (.ref c), some (.ref lw), some (.int (at' : Nat)), x6, none, none] ∧ Same H H' ∧ TupKeep H5 H' ∧ H' a = some (.lst xs) ∧ H' c = some (.dK kvs) ∧ H' lw = some (.lst (ws2.map V.str)) ∧
        Cm K H' kvs N.net ws2 start ∧ (∃ vs, ws2 = ws ++ vs) ∧ ∀ st ∈ (restN N.net N.as.length x).take i, st.other ∈ ws2,
      ⟨ws, kvs, x6, rfl, (sH.trans s4).trans s5, TupKeep.refl _, e5, s5 _ _ ec4, s5 _ _ ew4, hC.keep (tk_same (s4.trans s5)), ⟨[], by simp⟩, fun st h => absurd h (by simp)⟩, fun i σ' H' h => by obtain ⟨_, _, _, _, _, k1, k2, _⟩ := h; exact ⟨k1, k2⟩, ?_, ?_⟩
    · intro i d y σ' H' H'' hd hP smm hy
      obtain ⟨ws2, kvs2, x6, rfl, sH2, tk, ea, ecc, eww, hC2, ⟨vs, rfl⟩, hall⟩ := hP
      obtain ⟨st, hst, rfl, hmm⟩ := get_map (f := stepD) hd
      have ok : StepOk N.net x st := by
        rw [← ln] at hmm
        exact mem_restN.mp hmm
      have hx2 : (ws ++ vs)[at']? = some x := get_app hx
      have hC3 := hC2.keep (tk_same smm)
      have hb2 := hC2.bound
      show tIfS _ _ _ _ _ _
      have y0 : ∀ {H6 : Hp} {σ : L2.St}, Same H'' H6 → σ[6]? = some (some y) → Ev (tOp (rIxT K) (tVar 6) (tC (.int 0))) σ H6 (oI K (.str st.other)) := fun s h => ev_ixT (i := 0) (ev_varI h (Im.same s hy)) ev_int rfl
      refine s_when (evb_notinD (K := K) (x := st.other) (ev_varV (i := 3) rfl) (y0 (Same.refl _) rfl) (smm _ _ ecc)) (fun hb H6 s6 => ?_) fun hb H6 s6 => ?_
      · have hn : st.other ∉ ws ++ vs := by
          rw [hC2.key] at hb
          intro q
          rw [decide_eq_true q] at hb
          cases hb
        refine q_dput (K := K) (x := st.other) (P := oI K (.tuple [.str x, stepD st])) (by have := hC2.len; omega) (s6 _ _ (smm _ _ ecc)) (ev_tup2 (ev_ixL (ev_varL (i := 4) rfl (s6 _ _ (smm _ _ eww)) (ImAll.of_strs (ws ++ vs))) (ev_varI (i := 5) rfl (Im.int _)) (ix hx2)) (ev_varI (i := 6) rfl (Im.same s6 hy))) (ev_varV (i := 3) rfl) (y0 s6 rfl) fun u H7 s7 p7 => ?_
        have k8 : TupKeep H7 (upd H7 c (.dK (putK kvs2 (.inr st.other) u))) := tk_upd (s7 _ _ (s6 _ _ (smm _ _ ecc))) trivial
        have kk : TupKeep H'' (upd H7 c (.dK (putK kvs2 (.inr st.other) u))) := (tk_same (s6.trans s7)).trans k8
        have sH8 : Same H (upd H7 c (.dK (putK kvs2 (.inr st.other) u))) := same_mut (((sH2.trans smm).trans s6).trans s7) nc
        have ew8 : (upd H7 c (.dK (putK kvs2 (.inr st.other) u))) lw = some (.lst ((ws ++ vs).map V.str)) := by rw [upd_ne ncw.symm]; exact s7 _ _ (s6 _ _ (smm _ _ eww))
        have hac : a ≠ c := ne_of ea ecc (by intro q; cases q)
        refine s_app ew8 (ev_varV (i := 4) rfl) (P := oI K (.str st.other)) (ev_ixT (i := 0) (ev_varI (i := 6) rfl (hy.keep kk)) ev_int rfl) (by rw [List.length_map]; omega) fun u2 H9 s9 p9 => ?_
        obtain rfl := Im.str_inv p9
        have k10 : TupKeep H9 (upd H9 lw (.lst ((ws ++ vs).map V.str ++ [.str st.other]))) := tk_upd (s9 _ _ ew8) trivial
        refine ⟨ws ++ vs ++ [st.other], putK kvs2 (.inr st.other) u, some y, rfl, same_mut (sH8.trans s9) nw0, ((tk.trans (tk_same smm)).trans kk).trans ((tk_same s9).trans k10), ?_, ?_, ?_, ?_, ⟨vs ++ [st.other], by simp⟩, fun st' h' => ?_⟩
        · rw [upd_ne na]
          refine s9 _ _ ?_
          rw [upd_ne hac]
          exact s7 _ _ (s6 _ _ (smm _ _ ea))
        · rw [upd_ne ncw]
          exact s9 _ _ upd_same
        · rw [upd_same, List.map_append (l₁ := ws ++ vs)]
          rfl
        · exact hC3.step (i := at') (kk.trans ((tk_same s9).trans k10)) hx2 ok hn (Im.keep ((k8.trans (tk_same s9)).trans k10) p7)
        · rw [List.take_add_one, hst] at h'
          rcases List.mem_append.mp h' with q | q
          · exact List.mem_append_left _ (hall st' q)
          · rw [List.mem_singleton.mp (show st' ∈ [st] from q)]
            exact List.mem_append_right _ (List.mem_singleton.mpr rfl)
      · have hn : st.other ∈ ws ++ vs := by
          rw [hC2.key] at hb
          by_cases q : st.other ∈ ws ++ vs
          · exact q
          · rw [decide_eq_false q] at hb
            cases hb
        refine ⟨ws ++ vs, kvs2, some y, rfl, (sH2.trans smm).trans s6, tk.trans (tk_same (smm.trans s6)), s6 _ _ (smm _ _ ea), s6 _ _ (smm _ _ ecc), s6 _ _ (smm _ _ eww), hC2.keep (tk_same (smm.trans s6)), ⟨vs, rfl⟩, fun st' h' => ?_⟩
        rw [List.take_add_one, hst] at h'
        rcases List.mem_append.mp h' with q | q
        · exact hall st' q
        · rw [List.mem_singleton.mp (show st' ∈ [st] from q)]
          exact hn
    · intro σ' H' hP
      obtain ⟨ws2, kvs2, x6, rfl, sH2, tk, ea, ecc, eww, hC2, ⟨vs, rfl⟩, hall⟩ := hP
      rw [er, List.take_length] at hall
      refine s_set (ev_add (K := K) (ev_varI (i := 5) rfl (Im.int _)) ev_int) fun u H6 s6 p6 => ?_
      obtain rfl := Im.int_inv p6
      refine ⟨m - 1, by omega, at' + 1, ws ++ vs, kvs2, x6, rfl, sH2.trans s6, s6 _ _ ecc, s6 _ _ eww, hC2.keep (tk_same s6), by rw [List.length_append]; omega, by omega, fun i z hi hz st ok => ?_⟩
      rcases Nat.lt_or_ge i at' with q | q
      · have hz' : ws[i]? = some z := by rw [List.getElem?_append_left (by omega)] at hz; exact hz
        exact List.mem_append_left _ (hcl i z q hz' st ok)
      · have hi : i = at' := by omega
        subst hi
        rw [get_app hx] at hz
        obtain rfl := Option.some.inj hz
        refine hall st ?_
        rw [← ln]
        exact mem_restN.mpr ok
  · -- done
    have hge : ws.length ≤ at' := by
      have := of_decide_eq_false hge
      rw [List.length_map] at this
      omega
    have e4 := s4 _ _ ec'
    have cl : ∀ x ∈ ws, ∀ st, StepOk N.net x st → st.other ∈ ws := fun x hx st ok => by
      obtain ⟨i, hi, rfl⟩ := List.mem_iff_getElem.mp hx
      exact hcl i _ (by omega) (List.getElem?_eq_getElem hi) st ok
    refine q_when (evb_notinD (K := K) (x := en) (ev_varV (i := 3) rfl) (ev_varI (i := 2) rfl (Im.str _)) e4) (fun hb H6 s6 => ?_) fun hb H6 s6 => ?_
    · have hn : en ∉ ws := by
        rw [hC.key] at hb
        intro q
        rw [decide_eq_true q] at hb
        cases hb
      refine s_ret (ev_non (K := K)) fun v H7 s7 p7 => q v H7 (((sH.trans s4).trans s6).trans s7) ⟨none, ⟨fun x => decide (x ∈ ws), decide_eq_true (List.mem_of_getElem? hC.st), decide_eq_false hn, fun x st h ok => ?_⟩, p7⟩
      exact decide_eq_true (cl x (of_decide_eq_true h) st ok)
    · have hn : en ∈ ws := by
        rw [hC.key] at hb
        by_cases q : en ∈ ws
        · exact q
        · rw [decide_eq_false q] at hb
          cases hb
      refine q_set (ev_nil (K := K)) fun vf H7 s7 p7 => ?_
      obtain ⟨lf, xsf, rfl, nf, ef, pf⟩ := p7
      cases pf
      refine q_set (ev_varI (K := K) (i := 2) rfl (Im.str en)) fun vh H8 s8 p8 => ?_
      obtain rfl := Im.str_inv p8
      have sH8 := (((sH.trans s4).trans s6).trans s7).trans s8
      have nf0 : H lf = none := ((sH.trans s4).trans s6).free nf
      have ec8 := s8 _ _ (s7 _ _ (s6 _ _ e4))
      have hC8 := hC.keep (tk_same (((s4.trans s6).trans s7).trans s8))
      have ncf : c ≠ lf := ne_of_none (s6 _ _ e4) nf
      refine q_while (fun m σ' H' => ∃ x fs xs x6, σ' = [some (.ref dr), some (.str start), some (.str en), some (.ref c), some (.ref lw), some (.int (at' : Nat)), x6, some (.ref lf), some (.str x)] ∧ Same H H' ∧ H' c = some (.dK kvs) ∧ H' lf = some (.lst xs) ∧ ImAll K H' xs (fs.map stepD) ∧
          Cm K H' kvs N.net ws start ∧ Trail N.net ws x en fs ∧ ws[m]? = some x ∧ fs.length + m ≤ ws.length) (ws.idxOf en)
        ⟨en, [], [], x6, rfl, sH8, ec8, s8 _ _ ef, .nil, hC8, trail_nil, ?_, ?_⟩ ?_
      · have := List.idxOf_lt_length_iff.mpr hn
        rw [List.getElem?_eq_getElem this, List.getElem_idxOf this]
      · have := List.idxOf_lt_length_iff.mpr hn
        show 0 + _ ≤ _
        omega
      rintro m σ' H' ⟨x, fs, xs, x6, rfl, sHx, ecx, efx, ifx, hCx, tr, hmx, hlen⟩
      refine ⟨_, evb_test (ev_neS (K := K) (ev_varI (i := 8) rfl (Im.str x)) (ev_varI (i := 1) rfl (Im.str start))), fun hne H9 s9 => ?_, fun heq H9 s9 => ?_⟩
      · have hne : x ≠ start := by
          intro q
          rw [decide_eq_true q] at hne
          cases hne
        obtain ⟨v, prev, st, hv, iv, cm⟩ := hCx.val x (List.mem_of_getElem? hmx) hne
        refine q_asg (P := oI K (.tuple [.str prev, stepD st])) (ev_dgetV (K := K) (x := x) (ev_varV (i := 3) rfl) (ev_varI (i := 8) rfl (Im.str x)) (s9 _ _ ecx) hv (Im.same s9 iv)) fun u H10 s10 p10 => ?_
        refine g_names2 p10 fun u1 u2 k1 k2 => ?_
        obtain rfl := Im.str_inv k1
        have ef10 := s10 _ _ (s9 _ _ efx)
        refine s_app ef10 (ev_varV (i := 7) rfl) (P := oI K (stepD st)) (ev_varI (i := 6) rfl k2) (by rw [ifx.length, List.length_map]; omega) fun u3 H11 s11 p11 => ?_
        have k12 : TupKeep H11 (upd H11 lf (.lst (xs ++ [u3]))) := tk_upd (s11 _ _ ef10) trivial
        obtain ⟨i, j, hij, hi, hj⟩ := cm.bef
        have ej : j = m := nodup_at hCx.nd hj hmx
        subst ej
        refine ⟨i, hij, prev, fs ++ [st], xs ++ [u3], some u2, rfl, same_mut (((sHx.trans s9).trans s10).trans s11) nf0, ?_, upd_same, ?_, hCx.keep ((tk_same ((s9.trans s10).trans s11)).trans k12), tr.step hCx.nd cm, hi, ?_⟩
        · rw [upd_ne ncf]
          exact s11 _ _ (s10 _ _ (s9 _ _ ecx))
        · rw [List.map_append]
          exact ((ifx.same ((s9.trans s10).trans s11)).keep k12).snoc (Im.keep k12 p11)
        · rw [List.length_append]
          show fs.length + 1 + i ≤ _
          omega
      · have heq : x = start := by
          by_cases q : x = start
          · exact q
          · rw [decide_eq_false q] at heq
            cases heq
        subst heq
        exact s_ret (ev_varL (K := K) (i := 7) rfl (s9 _ _ efx) (ifx.same s9)) fun v H10 s10 p10 => q v H10 ((sHx.trans s9).trans s10) ⟨some fs, ⟨tr.ch, tr.nd⟩, p10⟩
theorem ev_road {σ : L2.St} {H : Hp} {ta tb tc : TE} (a : RoadA) (h : Ev ta σ H (oD K (restD a.n))) (k : Ev tb σ H (oI K (.str a.start))) (l : Ev tc σ H (oI K (.str a.en))) (hp : a.n.Ok) :
    Ev (tCall (sp_road K) [] E0 (tCons ta (tCons tb (tCons tc tNil)))) σ H (oE (RoadR a.n.net a.start a.en) (roadO K)) := ev_call a (eva_cons h (eva_cons k (eva_cons l eva_nil))) hp
end
end Cut
end
section
namespace Cut
open PySem PySem.Spec PyProof.Rows L2
local macro_rules | `(tactic| walk_at "nk") => `(tactic| first | dsimp only [cxOf, Cx.nox, Cx.wish, Cx.blk] | skip)
local macro_rules | `(tactic| walk_at "im") => `(tactic| first
  | assumption
  | exact Im.int _ | exact Im.str _ | exact Im.bl _ | exact Im.non
  | (refine Im.same (by assumption) ?_; walk_at "im"))
local macro_rules | `(tactic| walk_at "side") => `(tactic| first | assumption | rfl | omega)
local macro_rules | `(tactic| walk_at "ev") => `(tactic| first
  | (with_reducible exact ev_int) | (with_reducible exact ev_str) | (with_reducible exact ev_bl) | (with_reducible exact ev_non)
  | ((with_reducible apply ev_varI); rfl; walk_at "im")
  | ((with_reducible apply ev_ixT); walk_at "ev"; walk_at "ev"; walk_at "side")
  | ((with_reducible apply ev_add); walk_at "ev"; walk_at "ev")
  | ((with_reducible apply ev_sub); walk_at "ev"; walk_at "ev")
  | ((with_reducible apply ev_mul); walk_at "ev"; walk_at "ev"; walk_at "side")
  | ((with_reducible apply ev_div); walk_at "ev"; walk_at "ev"; walk_at "side")
  | ((with_reducible apply ev_mod); walk_at "ev"; walk_at "ev"; walk_at "side")
  | ((with_reducible apply ev_eqI); walk_at "ev"; walk_at "ev")
  | ((with_reducible apply ev_neI); walk_at "ev"; walk_at "ev")
  | ((with_reducible apply ev_eqS); walk_at "ev"; walk_at "ev")
  | ((with_reducible apply ev_neS); walk_at "ev"; walk_at "ev")
  | ((with_reducible apply ev_cmp); walk_at "ev"; walk_at "ev")
  | ((with_reducible apply ev_tup1); walk_at "ev")
  | ((with_reducible apply ev_tup2); walk_at "ev"; walk_at "ev")
  | ((with_reducible apply ev_tup3); walk_at "ev"; walk_at "ev"; walk_at "ev")
  | ((with_reducible apply ev_tup4); walk_at "ev"; walk_at "ev"; walk_at "ev"; walk_at "ev")
  | ((with_reducible apply ev_tup5); walk_at "ev"; walk_at "ev"; walk_at "ev"; walk_at "ev"; walk_at "ev")
  | ((with_reducible apply ev_lenT); walk_at "ev")
  | ((with_reducible apply ev_abs); walk_at "ev")
  | ((with_reducible apply ev_tupleL); walk_at "ev")
  | ((with_reducible apply ev_notV); walk_at "ev")
  | assumption)

/-! the greatest stream -/
section
variable {ν : Type} [DecidableEq ν]
def scaleN (k : Int) (net : List (Ar ν)) : List (Ar ν) := net.map fun a => ⟨a.t, a.h, a.c * k, a.f * k⟩
theorem mkNet_scale (k : Int) : ∀ (as : List (ν × ν × Fr)) (ws gs : List Int), mkNet as (ws.map (· * k)) (gs.map (· * k)) = scaleN k (mkNet as ws gs)
  | [], _, _ => by unfold mkNet; rfl
  | _ :: _, [], _ => by rfl
  | _ :: _, _ :: _, [] => by rfl
  | a :: as, w :: ws, g :: gs => by
    show (⟨a.1, a.2.1, w * k, g * k⟩ : Ar ν) :: mkNet as (ws.map (· * k)) (gs.map (· * k)) = ⟨a.1, a.2.1, w * k, g * k⟩ :: scaleN k (mkNet as ws gs)
    rw [mkNet_scale k as ws gs]
theorem caps_scale {k : Int} (hk : 0 < k) {net : List (Ar ν)} (h : Caps net) : Caps (scaleN k net) := fun a ha => by
  obtain ⟨b, hb, rfl⟩ := List.mem_map.mp ha
  have := h b hb
  exact ⟨Int.mul_nonneg this.1 (Int.le_of_lt hk), Int.mul_le_mul_of_nonneg_right this.2 (Int.le_of_lt hk)⟩
theorem pot_scale {k : Int} {net : List (Ar ν)} {s d : ν} {val : Int} (h : Pot net s d val) : Pot (scaleN k net) s d (val * k) := fun χ => by
  have e := h χ
  unfold scaleN
  rw [sm_map]
  have : sm (fun a : Ar ν => a.f * k * (χ a.t - χ a.h)) net = sm (fun a : Ar ν => a.f * (χ a.t - χ a.h) * k) net := sm_congr fun a _ => by grind
  show sm (fun a : Ar ν => a.f * k * (χ a.t - χ a.h)) net = _
  rw [this, sm_mul, e]
  grind
theorem tight_scale {k : Int} {net : List (Ar ν)} {R : ν → Bool} (h : Tight net R) : Tight (scaleN k net) R := fun a ha => by
  obtain ⟨b, hb, rfl⟩ := List.mem_map.mp ha
  obtain ⟨h1, h2⟩ := h b hb
  refine ⟨fun t u => ?_, fun t u => ?_⟩
  · show b.f * k = b.c * k
    rw [h1 t u]
  · show b.f * k = 0
    rw [h2 t u, Int.zero_mul]
/-- nothing goes yet -/
theorem mkNet_zero : ∀ (as : List (ν × ν × Fr)) (ws : List Int), (∀ c ∈ ws, 0 ≤ c) → Caps (mkNet as ws (as.map fun _ => 0)) ∧ ∀ a ∈ mkNet as ws (as.map fun _ => 0), a.f = 0
  | [], _, _ => ⟨fun _ h => absurd h (by simp [mkNet]), fun _ h => absurd h (by simp [mkNet])⟩
  | _ :: _, [], _ => ⟨fun _ h => absurd h (by simp [mkNet]), fun _ h => absurd h (by simp [mkNet])⟩
  | a :: as, w :: ws, hw => by
    obtain ⟨i1, i2⟩ := mkNet_zero as ws fun c hc => hw c (List.mem_cons_of_mem _ hc)
    have h0 := hw w List.mem_cons_self
    refine ⟨fun b hb => ?_, fun b hb => ?_⟩
    · rcases List.mem_cons.mp (show b ∈ (⟨a.1, a.2.1, w, 0⟩ : Ar ν) :: mkNet as ws (as.map fun _ => 0) from hb) with rfl | hb
      · exact ⟨Int.le_refl _, h0⟩
      · exact i1 b hb
    · rcases List.mem_cons.mp (show b ∈ (⟨a.1, a.2.1, w, 0⟩ : Ar ν) :: mkNet as ws (as.map fun _ => 0) from hb) with rfl | hb
      · rfl
      · exact i2 b hb
theorem pot_zero {net : List (Ar ν)} {s d : ν} (h : ∀ a ∈ net, a.f = 0) : Pot net s d 0 := fun χ => by
  have : sm (fun a : Ar ν => a.f * (χ a.t - χ a.h)) net = sm (fun _ => 0) net := sm_congr fun a ha => by rw [h a ha, Int.zero_mul]
  rw [this]
  have z0 : ∀ m : List (Ar ν), sm (fun _ => (0 : Int)) m = 0 := fun m => by
    induction m with
    | nil => rfl
    | cons a m ih => rw [sm_cons, ih]; rfl
  rw [z0, Int.zero_mul]
end
theorem red_scale {n d k : Int} (hd : 0 < d) (hk : 0 < k) : red (n * k) (d * k) = red n d :=
  fv_uniq (Int.mul_pos hd hk) (red_fv (Int.mul_pos hd hk)) (fv_scale k (red_fv hd))
structure GrA where
  as : List (Str × Str × Fr)
  caps : List Int
  q : Int
  start : Str
  en : Str
structure GrA.Ok (a : GrA) : Prop where
  sm : a.as.length ≤ 40
  ln : a.caps.length = a.as.length
  ne : a.start ≠ a.en
  q0 : 0 < a.q
  qb : Bt 600 a.q
  fr : ∀ (i : Nat) (x : Str × Str × Fr) (c : Int), a.as[i]? = some x → a.caps[i]? = some c → Fw a.q x.2.2 c ∧ 0 ≤ c
structure Gr (net : List (Ar Str)) (s d : Str) (val : Int) : Prop where
  caps : Caps net
  pot : Pot net s d val
def GrR (a : GrA) (gs : List Int) : Prop := gs.length = a.as.length ∧ ∃ val, Gr (mkNet a.as a.caps gs) a.start a.en val ∧ ∃ R : Str → Bool, R a.start = true ∧ R a.en = false ∧ Tight (mkNet a.as a.caps gs) R
section
variable {P : Program} {w : World} {K : PySem.W.Frag} {mg : Str → Option Value} {base : Heap}
theorem ev_notN {σ : L2.St} {H : Hp} {te : TE} {v : V} (h : Ev te σ H (oV v)) : Ev (tOp (fun x y H Q => y = .non ∧ Q (.bl (!decide (x = .non))) H) te (tC .non)) σ H (oI K (.bool (!decide (v = .non)))) :=
  ev_op h (ev_c (P := oV .non) rfl) fun x y H1 s p1 p2 Q q => by
    obtain rfl : x = v := p1
    exact ⟨p2, q _ H1 (Same.refl H1) (Im.bl _)⟩
def sp_greatest (K : PySem.W.Frag) : Sp := spD (α := GrA) (fun a => [oL K (a.as.map arcD), oI K (.str a.start), oI K (.str a.en)]) GrA.Ok fun a => oE (GrR a) fun gs => oL K (gs.map fun g => frD (red g a.q))
theorem at_greatest (T : Tx K mg) : At P w K mg base 4 "greatest" ["arcs", "start", "end"] (sp_greatest K) := by
  refine at_of T.d_greatest sc_greatest (fun _ => rfl) fun f cdv A outer s H vs Q E a hr hp ha q => ?_
  refine ⟨_, (pss_cons (ps_set (i := 3) sc_greatest.nd rfl (Or.inr rfl) (pe_at (at_shared_bottom T) (hr.mono (by decide)) (by rfl) (pa_cons (pe_lc rfl sc_greatest.nd (show PI _ _ _ (iList K _) from pi_list (pv 0)) (blkOk_by (N := N_greatest) (sc := defScope s_greatest) (own := [("one", 4), ("other", 5), ("size", 6)]) (by decide +kernel)) (fun _ _ _ _ _ => (show PG _ _ (gTup K 3 _) from pg_tup rfl (pgs_cons (pg_name (i := 4) sc_greatest.nd rfl (Or.inl rfl)) (pgs_cons (pg_name (i := 5) sc_greatest.nd rfl (Or.inl rfl)) (pgs_cons (pg_name (i := 6) sc_greatest.nd rfl (Or.inl rfl)) pgs_nil))))) (fun _ _ _ _ _ => pts_nil) (fun _ _ _ _ _ => (pv 6))) pa_nil)))
 (pss_cons (ps_setLc (i := 7) rfl sc_greatest.nd rfl rfl (sw_true rfl rfl rfl (by decide +kernel)) (show PI _ _ _ (iList K _) from pi_list (pv 0)) (blkOk_by (N := N_greatest) (sc := defScope s_greatest) (own := [("one", 4), ("other", 5), ("size", 6)]) (by decide +kernel)) (fun _ _ _ _ _ => (show PG _ _ (gTup K 3 _) from pg_tup rfl (pgs_cons (pg_name (i := 4) sc_greatest.nd rfl (Or.inl rfl)) (pgs_cons (pg_name (i := 5) sc_greatest.nd rfl (Or.inl rfl)) (pgs_cons (pg_name (i := 6) sc_greatest.nd rfl (Or.inl rfl)) pgs_nil))))) (fun _ _ _ _ _ => pts_nil) (fun _ _ _ _ _ => (pe_op op_mulW (pe_ix (r := rIxT K) ix_tup (pv 6) pe_int (fun _ _ => rfl)) (pe_op op_fdivW (pv 3) (pe_ix (r := rIxT K) ix_tup (pv 6) pe_int (fun _ _ => rfl))))))
 (pss_cons (ps_setLc (i := 8) rfl sc_greatest.nd rfl rfl (sw_true rfl rfl rfl (by decide +kernel)) (show PI _ _ _ (iList K _) from pi_list (pv 0)) (blkOk_by (N := N_greatest) (sc := defScope s_greatest) (own := [("arc", 9)]) (by decide +kernel)) (fun _ _ _ _ _ => (pg_name (i := 9) sc_greatest.nd rfl (Or.inl rfl))) (fun _ _ _ _ _ => pts_nil) (fun _ _ _ _ _ => pe_int))
 (pss_cons (ps_set (i := 10) sc_greatest.nd rfl (Or.inl rfl) (pe_at (at_road T) (hr.mono (by decide)) (by rfl) (pa_cons (pe_at (at_rests_of T) (hr.mono (by decide)) (by rfl) (pa_cons (pv 0) (pa_cons (pv 7) (pa_cons (pv 8) pa_nil)))) (pa_cons (pv 1) (pa_cons (pv 2) pa_nil)))))
 (pss_cons (ps_while PassesOwn.never (pt_cmpR op_notN (pv 10) pe_non (nomark _)) (pss_cons (ps_set (i := 11) sc_greatest.nd rfl (Or.inl rfl) (pe_callB (r := rMin K) (cr_min rfl) (by rfl) T.m_min (by decide +kernel) (pa_cons (pe_lc rfl sc_greatest.nd (show PI _ _ _ (iList K _) from pi_list (pv 10)) (blkOk_by (N := N_greatest) (sc := defScope s_greatest) (own := [("knot", 12), ("number", 13), ("along", 14), ("rest", 15)]) (by decide +kernel)) (fun _ _ _ _ _ => (show PG _ _ (gTup K 4 _) from pg_tup rfl (pgs_cons (pg_name (i := 12) sc_greatest.nd rfl (Or.inl rfl)) (pgs_cons (pg_name (i := 13) sc_greatest.nd rfl (Or.inl rfl)) (pgs_cons (pg_name (i := 14) sc_greatest.nd rfl (Or.inl rfl)) (pgs_cons (pg_name (i := 15) sc_greatest.nd rfl (Or.inl rfl)) pgs_nil)))))) (fun _ _ _ _ _ => pts_nil) (fun _ _ _ _ _ => (pv 15))) pa_nil)))
 (pss_cons (ps_for PassesOwn.never rfl (show PI _ _ _ (iList K _) from pi_list (pv 10)) (show PG _ _ (gTup K 4 _) from pg_tup rfl (pgs_cons (pg_name (i := 12) sc_greatest.nd rfl (Or.inl rfl)) (pgs_cons (pg_name (i := 13) sc_greatest.nd rfl (Or.inl rfl)) (pgs_cons (pg_name (i := 14) sc_greatest.nd rfl (Or.inl rfl)) (pgs_cons (pg_name (i := 15) sc_greatest.nd rfl (Or.inl rfl)) pgs_nil))))) (pss_one (ps_asg (pe_ifExp (pt_val (pv 14)) (pe_op op_add (pe_ix (r := rIxL K) ix_list (pv 8) (pv 13) (fun _ _ => rfl)) (pv 11)) (pe_op op_sub (pe_ix (r := rIxL K) ix_list (pv 8) (pv 13) (fun _ _ => rfl)) (pv 11))) (pg_sub (pv 8) (pv 13) set_list))))
 (pss_one (ps_set (i := 10) sc_greatest.nd rfl (Or.inl rfl) (pe_at (at_road T) (hr.mono (by decide)) (by rfl) (pa_cons (pe_at (at_rests_of T) (hr.mono (by decide)) (by rfl) (pa_cons (pv 0) (pa_cons (pv 7) (pa_cons (pv 8) pa_nil)))) (pa_cons (pv 1) (pa_cons (pv 2) pa_nil)))))))))
 (pss_one (ps_ret (pe_lc rfl sc_greatest.nd (show PI _ _ _ (iList K _) from pi_list (pv 8)) (blkOk_by (N := N_greatest) (sc := defScope s_greatest) (own := [("many", 16)]) (by decide +kernel)) (fun _ _ _ _ _ => (pg_name (i := 16) sc_greatest.nd rfl (Or.inl rfl))) (fun _ _ _ _ _ => pts_nil) (fun _ _ _ _ _ => (pe_at (at_fraction T) (hr.mono (by decide)) (by rfl) (pa_cons (pv 16) (pa_cons (pv 3) pa_nil)))))))))))), ?_⟩
  walk_at "nk"
  obtain ⟨v1, v2, v3, rfl, h1, h2, h3⟩ := oall3 ha
  obtain ⟨as, caps, qq, start, en⟩ := a
  have hp : GrA.Ok ⟨as, caps, qq, start, en⟩ := hp
  have hq : 0 < qq := hp.q0
  have bq : Bt 600 qq := hp.qb
  have hln : caps.length = as.length := hp.ln
  have h40 : as.length ≤ 40 := hp.sm
  have hfr : ∀ (i : Nat) (x : Str × Str × Fr) (c : Int), as[i]? = some x → caps[i]? = some c → Fw qq x.2.2 c ∧ 0 ≤ c := hp.fr
  have h1 : LsAt K H v1 (as.map arcD) := h1
  obtain rfl : v2 = .str start := Im.str_inv h2
  obtain rfl : v3 = .str en := Im.str_inv h3
  have fr1 : ∀ x ∈ as, ∃ c, c ∈ caps ∧ Fw qq x.2.2 c ∧ 0 ≤ c := fun x hx => by
    obtain ⟨i, hi, rfl⟩ := List.mem_iff_getElem.mp hx
    have := hfr i as[i] (caps[i]'(by omega)) (List.getElem?_eq_getElem hi) (List.getElem?_eq_getElem (by omega))
    exact ⟨caps[i]'(by omega), List.getElem_mem _, this⟩
  have g3 : ∀ {σ : L2.St} {n : Nat}, True := fun {_ _} => trivial
  have gm3 := gm_tup (K := K) (n := 3) (gm_cons (gm_name (i := 4)) (gm_cons (gm_name (i := 5)) (gm_cons (gm_name (i := 6)) gm_nil)))
  refine q_set (ev_shared_bottom (K := K) (l := as.map (·.2.2)) (qq := qq) (Ev.ls (ev_lcmLA as arcD (fun x => frD x.2.2) (evi_list (ev_varLs (i := 0) rfl h1)) (by omega)
    (fun x v H1 hx s p => g_names3 p fun u1 u2 u3 _ _ k3 => ⟨rfl, Same.refl _, ev_varI (i := 6) rfl k3⟩) gm3 (by rw [List.map_map]; rfl))) hq bq (fun x hx => ?_)) fun vb H1 s1 p1 => ?_
  · obtain ⟨z, hz, rfl⟩ := List.mem_map.mp hx
    obtain ⟨c, _, f, _⟩ := fr1 z hz
    exact ⟨f.pos, fv_den f.v⟩
  obtain ⟨B, ⟨hB, hBq, hBd⟩, pB⟩ := p1
  obtain rfl := Im.int_inv pB
  have hBd : ∀ x ∈ as, x.2.2.2 ∣ B := fun x hx => hBd x.2.2 (List.mem_map.mpr ⟨x, hx, rfl⟩)
  obtain ⟨k, hk⟩ := hBq
  have hk0 : 0 < k := by
    rcases Int.lt_trichotomy 0 k with z | z | z
    · exact z
    · subst z; omega
    · have := Int.mul_neg_of_pos_of_neg hB z
      omega
  have bB : Bt 600 B := bq.of (dvd_nat hq ⟨k, hk⟩)
  let wh : Str × Str × Fr → Int := fun x => x.2.2.1 * (B / x.2.2.2)
  have hwh : ∀ (i : Nat) (x : Str × Str × Fr) (c : Int), as[i]? = some x → caps[i]? = some c → wh x * k = c := fun i x c hx hc => by
    obtain ⟨f, _⟩ := hfr i x c hx hc
    obtain ⟨m, hm⟩ := hBd x (List.mem_of_getElem? hx)
    have e : B / x.2.2.2 = m := by rw [hm]; exact Int.mul_ediv_cancel_left _ (by have := f.pos; omega)
    have e2 := f.v.eq
    show x.2.2.1 * (B / x.2.2.2) * k = c
    rw [e]
    refine mul_cancel f.pos ?_
    rw [hk, hm] at e2
    grind
  refine q_set (Ev.ls (ev_lcmLA (K := K) as arcD (fun x => .int (wh x)) (evi_list (ev_varLs (i := 0) rfl (h1.same s1))) (by omega)
    (fun x v H2 hx s p => g_names3 p fun u1 u2 u3 _ _ k3 => ⟨rfl, Same.refl _, ?_⟩) gm3 (es := intsD (as.map wh)) (by rw [intsD, List.map_map]; rfl))) fun vw H2 s2 p2 => ?_
  · obtain ⟨c, _, f, _⟩ := fr1 x hx
    have b1 : Bt 600 x.2.2.1 := f.b.of (fv_top hq f.v).1
    have b2 : Bt 600 x.2.2.2 := bq.of (fv_top hq f.v).2
    obtain ⟨m, hm⟩ := hBd x hx
    have bd : Bt 600 (B / x.2.2.2) := by
      refine bB.of ?_
      have e : B / x.2.2.2 = m := by rw [hm]; exact Int.mul_ediv_cancel_left _ (by have := f.pos; omega)
      rw [e]
      exact dvd_nat hB ⟨x.2.2.2, by rw [hm, Int.mul_comm]⟩
    exact ev_mul (ev_ixT (i := 0) (ev_varI (i := 6) rfl k3) ev_int rfl) (ev_div (ev_varI (i := 3) rfl (Im.int B)) (ev_ixT (i := 1) (ev_varI (i := 6) rfl k3) ev_int rfl) (b2.cd f.pos (by decide) (by decide))) (b1.cm bd (by decide) (by decide) (by decide))
  have p2 : LsAt K H2 vw (intsD (as.map wh)) := p2
  have h12 := h1.same (s1.trans s2)
  have gm9 := gm_name (i := 9)
  refine q_set (ev_lcmLA (K := K) as arcD (fun x => .int 0) (evi_list (ev_varLs (i := 0) rfl h12)) (by omega)
    (fun x v H2 hx s p => ⟨rfl, Same.refl _, ev_int⟩) gm9 (es := intsD (as.map fun _ => 0)) (by rw [intsD, List.map_map]; rfl)) fun vg H3 s3 p3 => ?_
  obtain ⟨lg, xg, rfl, ng, eg, ig⟩ := p3
  obtain rfl := ig.ints
  have s03 := (s1.trans s2).trans s3
  have ng0 : H lg = none := (s1.trans s2).free ng
  have lw : (as.map wh).length = as.length := List.length_map _
  -- the road's call, at any time
  have rd : ∀ {σ : L2.St} {H9 : Hp} {gs : List Int}, gs.length = as.length → σ[0]? = some (some v1) → σ[1]? = some (some (.str start)) → σ[2]? = some (some (.str en)) → σ[7]? = some (some vw) → σ[8]? = some (some (.ref lg)) → Same H H9 → Same H2 H9 → H9 lg = some (.lst (gs.map V.int)) →
      Ev (tCall (sp_road K) [] E0 (tCons (tCall (sp_rests_of K) [] E0 (tCons (tVar 0) (tCons (tVar 7) (tCons (tVar 8) tNil)))) (tCons (tVar 1) (tCons (tVar 2) tNil)))) σ H9 (oE (RoadR (mkNet as (as.map wh) gs) start en) (roadO K)) := fun {σ H9 gs} hl e0 e1 e2 e7 e8 sH s2 el =>
    ev_road ⟨⟨as, as.map wh, gs⟩, start, en⟩ (ev_rests_of (ev_varLs e0 (h1.same sH)) (ev_varLs e7 (p2.same s2)) (ev_varL e8 el (ImAll.of_ints gs)) ⟨lw, hl, h40⟩) (ev_varI e1 (Im.str _)) (ev_varI e2 (Im.str _)) ⟨lw, hl, h40⟩
  refine q_set (rd (gs := as.map fun _ => 0) (List.length_map _) rfl rfl rfl rfl rfl s03 s3 eg) fun v10 H4 s4 p4 => ?_
  have cw : ∀ c ∈ as.map wh, 0 ≤ c := fun c hc => by
    obtain ⟨x, hx, rfl⟩ := List.mem_map.mp hc
    obtain ⟨i, hi, rfl⟩ := List.mem_iff_getElem.mp hx
    have ec : caps[i]? = some (caps[i]'(by omega)) := List.getElem?_eq_getElem (by omega)
    have := hfr i _ _ (List.getElem?_eq_getElem hi) ec
    have e := hwh i _ _ (List.getElem?_eq_getElem hi) ec
    have h0 := this.2
    rw [← e] at h0
    exact Int.nonneg_of_mul_nonneg_left h0 hk0
  obtain ⟨c0, f0⟩ := mkNet_zero as (as.map wh) cw
  let net0 := mkNet as (as.map wh) (as.map fun _ => 0)
  let bnd := cutc net0 (fun x => decide (x = start))
  refine q_while (fun m σ' H' => ∃ gs val vr o x4 x5 x6 x9 x11 x12 x13 x14 x15, σ' = [some v1, some (.str start), some (.str en), some (.int B), x4, x5, x6, some vw, some (.ref lg), x9, some vr, x11, x12, x13, x14, x15, none] ∧ Same H H' ∧ Same H2 H' ∧ H' lg = some (.lst (gs.map V.int)) ∧ gs.length = as.length ∧
      Gr (mkNet as (as.map wh) gs) start en val ∧ SameArcs net0 (mkNet as (as.map wh) gs) ∧ RoadR (mkNet as (as.map wh) gs) start en o ∧ (roadO K o).p vr H' ∧ m = (bnd - val).toNat) _
    (by
      obtain ⟨o, ho, po⟩ := p4
      exact ⟨_, 0, v10, o, _, _, _, _, _, _, _, _, _, rfl, s03.trans s4, s3.trans s4, s4 _ _ eg, List.length_map _, ⟨c0, pot_zero f0⟩, rfl, ho, po, rfl⟩) ?_
  rintro m σ' H' ⟨gs, val, vr, o, x4, x5, x6, x9, x11, x12, x13, x14, x15, rfl, sH, sH2, el, hl, gr, sa, ho, po, rfl⟩
  refine ⟨_, evb_test (ev_notN (K := K) (ev_varV (i := 10) rfl)), fun hb H5 s5 => ?_, fun hb H5 s5 => ?_⟩
  · -- a road
    cases o with
    | none =>
      rw [Im.non_inv po] at hb
      simp at hb
    | some fs =>
    obtain ⟨ch, nd⟩ := ho
    obtain ⟨a10, x10, rfl, e10, i10⟩ := po
    have e10' := s5 _ _ e10
    have i10' := i10.same s5
    have all := Chain.all ch
    have len : fs.length ≤ 40 := by
      have : (fs.map (·.num)).length ≤ (List.range as.length).length := nodup_len _ _ nd fun n hn => by
        obtain ⟨st, hst, rfl⟩ := List.mem_map.mp hn
        obtain ⟨y, b, eb, _⟩ := all st (List.mem_reverse.mpr hst)
        have := (List.getElem?_eq_some_iff.mp eb).1
        rw [mkNet_len as (as.map wh) gs lw hl] at this
        exact List.mem_range.mpr this
      rw [List.length_map, List.length_range] at this
      omega
    have fne : fs ≠ [] := by
      rintro rfl
      exact hp.ne ch
    have fpos : 0 < fs.length := List.length_pos_iff.mpr fne
    have gm4 := gm_tup (K := K) (n := 4) (gm_cons (gm_name (i := 12)) (gm_cons (gm_name (i := 13)) (gm_cons (gm_name (i := 14)) (gm_cons (gm_name (i := 15)) gm_nil))))
    refine q_set (ev_min (K := K) (ns := fs.map (·.rest)) (Ev.ls (ev_lcmLA fs stepD (fun st => .int st.rest) (evi_list (ev_varL (i := 10) rfl e10' i10')) (by omega)
      (fun st v H6 hx s p => g_names4 p fun u1 u2 u3 u4 _ _ _ k4 => ⟨rfl, Same.refl _, ev_varI (i := 15) rfl k4⟩) gm4 (by rw [List.map_map]; rfl))) (by rw [List.length_map]; exact fpos)) fun vm H6 s6 p6 => ?_
    obtain ⟨mr, ⟨hm1, hm2⟩, pm⟩ := p6
    obtain rfl := Im.int_inv pm
    have hm2 : ∀ st ∈ fs, mr ≤ st.rest := fun st hst => hm2 _ (List.mem_map.mpr ⟨st, hst, rfl⟩)
    have hm0 : 0 < mr := by
      obtain ⟨st, hst, rfl⟩ := List.mem_map.mp hm1
      obtain ⟨y, b, eb, hr, _⟩ := all st (List.mem_reverse.mpr hst)
      exact hr
    have nea : a10 ≠ lg := by
      rintro rfl
      rw [el] at e10
      cases e10
      cases fs with
      | nil => exact fne rfl
      | cons st r =>
        obtain ⟨v, hv, hi⟩ := i10.get (i := 0) rfl
        obtain ⟨a, ys, rfl, _⟩ := Im.tup_inv hi
        cases gs with
        | nil => cases hv
        | cons g gs => cases hv
    obtain ⟨lc, lp, ls⟩ := lead gr.caps gr.pot ch nd hm0 hm2
    refine q_forA (evi_listA (K := K) (ev_varV (i := 10) rfl) (s6 _ _ e10') (i10'.same s6)) fun H7 s7 => ?_
    refine ⟨fun i σ' H' => ∃ gs' x12 x13 x14 x15, σ' = [some v1, some (.str start), some (.str en), some (.int B), x4, x5, x6, some vw, some (.ref lg), x9, some (.ref a10), some (.int mr), x12, x13, x14, x15, none] ∧ Same H H' ∧ Same H2 H' ∧ TupKeep H7 H' ∧ H' a10 = some (.lst x10) ∧ H' lg = some (.lst (gs'.map V.int)) ∧ gs'.length = as.length ∧
        mkNet as (as.map wh) gs' = pushAll (mkNet as (as.map wh) gs) mr (fs.take i),
      ⟨gs, _, _, _, _, rfl, ((sH.trans s5).trans s6).trans s7, ((sH2.trans s5).trans s6).trans s7, TupKeep.refl _, s7 _ _ (s6 _ _ e10'), s7 _ _ (s6 _ _ (s5 _ _ el)), hl, rfl⟩,
      fun i σ' H' h => by obtain ⟨_, _, _, _, _, _, _, _, k1, k2, _⟩ := h; exact ⟨k1, k2⟩, ?_, ?_⟩
    · rintro i d y σ' H' H'' hd ⟨gs', x12, x13, x14, x15, rfl, sH', sH2', tk, e10, el, hl', hnet⟩ smm hy
      obtain ⟨st, hst, rfl, hmm⟩ := get_map (f := stepD) hd
      refine g_names4 hy fun u1 u2 u3 u4 k1 k2 k3 k4 => ?_
      obtain rfl := Im.int_inv k2
      obtain rfl := Im.bl_inv k3
      obtain ⟨yy, b, eb, hr, _⟩ := all st (List.mem_reverse.mpr hmm)
      have hnum : st.num < as.length := by
        have := (List.getElem?_eq_some_iff.mp eb).1
        rw [mkNet_len as (as.map wh) gs lw hl] at this
        exact this
      have eg : gs'[st.num]? = some (gs'[st.num]'(by omega)) := List.getElem?_eq_getElem _
      generalize gs'[st.num]'(by omega) = g at eg
      have el'' := smm _ _ el
      have ixg : atI (intsD gs') ((st.num : Nat) : Int) = some (.int g) := atI_nat (by rw [List.getElem?_map, eg]; rfl)
      have base : ∀ {H8 : Hp} {σ : L2.St}, Same H'' H8 → σ[8]? = some (some (.ref lg)) → σ[13]? = some (some (.int (st.num : Nat))) → Ev (tOp (rIxL K) (tVar 8) (tVar 13)) σ H8 (oI K (.int g)) := fun s h h2 =>
        ev_ixL (ev_varL h (s _ _ el'') (ImAll.of_ints gs')) (ev_varI h2 (Im.int _)) ixg
      refine s_setL (K := K) (l := lg) (xs := gs'.map V.int) (ds := intsD gs') (j := st.num) (dd := .int (if st.along = true then g + mr else g - mr)) el'' (ImAll.of_ints gs') (ev_if (b := st.along) (evb_B (ev_varI (K := K) (i := 14) rfl (Im.bl _))) (fun hb => ?_) fun hb => ?_) (ev_varV (i := 8) rfl) (ev_varI (i := 13) rfl (Im.int _)) (by rw [List.length_map]; omega) fun ys H8 s8 i8 => ?_
      · rw [if_pos hb]
        exact ev_add (base (Same.refl _) rfl rfl) (ev_varI (i := 11) rfl (Im.int _))
      · rw [if_neg (by rw [hb]; decide)]
        exact ev_sub (base (Same.refl _) rfl rfl) (ev_varI (i := 11) rfl (Im.int _))
      have i8' : ImAll K (upd H8 lg (.lst ys)) ys (intsD (gs'.set st.num (if st.along = true then g + mr else g - mr))) := by
        rw [intsD, List.map_set]
        exact i8
      obtain rfl := i8'.ints
      refine ⟨_, _, _, _, _, rfl, same_mut ((sH'.trans smm).trans s8) ng0, same_mut ((sH2'.trans smm).trans s8) ng, ((tk.trans (tk_same smm)).trans (tk_same s8)).trans (tk_upd (s8 _ _ el'') trivial), ?_, upd_same, by rw [List.length_set]; exact hl', ?_⟩
      · rw [upd_ne nea]
        exact s8 _ _ (smm _ _ e10)
      · rw [List.take_add_one, hst, ← mkNet_push lw hl' eg, hnet]
        show push (pushAll _ mr (fs.take i)) mr st = pushAll _ mr (fs.take i ++ [st])
        unfold pushAll
        rw [List.foldl_append]
        rfl
    · rintro σ' H' ⟨gs', x12, x13, x14, x15, rfl, sH', sH2', tk, e10, el, hl', hnet⟩
      rw [List.length_map, List.take_length] at hnet
      refine s_set (rd hl' rfl rfl rfl rfl rfl sH' sH2' el) fun v10 H8 s8 p8 => ?_
      obtain ⟨o, ho, po⟩ := p8
      have gr' : Gr (mkNet as (as.map wh) gs') start en (val + mr) := by
        rw [hnet]
        exact ⟨lc, lp⟩
      have sa' : SameArcs net0 (mkNet as (as.map wh) gs') := by
        rw [hnet]
        exact sa.trans ls
      refine ⟨(bnd - (val + mr)).toNat, ?_, gs', val + mr, v10, o, x4, x5, x6, x9, _, _, _, _, _, rfl, sH'.trans s8, sH2'.trans s8, s8 _ _ el, hl', gr', sa', ho, po, rfl⟩
      have := val_bound gr'.caps gr'.pot hp.ne
      have e : cutc (mkNet as (as.map wh) gs') (fun x => decide (x = start)) = bnd := (cutc_same sa' _).symm
      rw [e] at this
      omega
  · cases o with
    | some fs =>
      obtain ⟨a10, x10, rfl, _⟩ := po
      simp at hb
    | none =>
    obtain ⟨R, r1, r2, r3⟩ := ho
    have tg := closed_tight gr.caps r3
    have gm16 := gm_name (i := 16)
    have es : gs.map (fun g => frD (red g B)) = (gs.map (· * k)).map fun g => frD (red g qq) := by
      rw [List.map_map]
      refine List.map_congr_left fun g _ => ?_
      show frD (red g B) = frD (red (g * k) qq)
      rw [hk, red_scale hB hk0]
    have ec : caps = (as.map wh).map (· * k) := by
      rw [List.map_map]
      refine List.ext_getElem? fun i => ?_
      rw [List.getElem?_map]
      rcases Nat.lt_or_ge i as.length with hi | hi
      · have e1 := List.getElem?_eq_getElem hi
        have e2 : caps[i]? = some (caps[i]'(by omega)) := List.getElem?_eq_getElem (by omega)
        rw [e1, e2]
        show some _ = some (wh as[i] * k)
        rw [hwh i _ _ e1 e2]
      · rw [List.getElem?_eq_none hi, List.getElem?_eq_none (by omega)]
        rfl
    refine s_ret (Ev.ls (ev_lcmLA (K := K) gs (.int ·) (fun g => frD (red g B)) (evi_list (ev_varL (i := 8) rfl (s5 _ _ el) (ImAll.of_ints gs))) (by omega)
      (fun g v H6 hx s p => ⟨rfl, Same.refl _, ev_fraction (ev_varI (i := 16) rfl p) (ev_varI (i := 3) rfl (Im.int B)) hB (bB.mono (by decide))⟩) gm16 es)) fun v H6 s6 p6 => q v H6 ((sH.trans s5).trans s6) ⟨gs.map (· * k), ⟨?_, val * k, ?_, R, r1, r2, ?_⟩, p6⟩
    · rw [List.length_map]; exact hl
    · show Gr (mkNet as caps (gs.map (· * k))) start en (val * k)
      rw [ec, mkNet_scale]
      exact ⟨caps_scale hk0 gr.caps, pot_scale gr.pot⟩
    · show Tight (mkNet as caps (gs.map (· * k))) R
      rw [ec, mkNet_scale]
      exact tight_scale tg
theorem ev_greatest {σ : L2.St} {H : Hp} {ta tb tc : TE} (a : GrA) (h : Ev ta σ H (oL K (a.as.map arcD))) (k : Ev tb σ H (oI K (.str a.start))) (l : Ev tc σ H (oI K (.str a.en))) (hp : a.Ok) :
    Ev (tCall (sp_greatest K) [] E0 (tCons ta (tCons tb (tCons tc tNil)))) σ H (oE (GrR a) fun gs => oL K (gs.map fun g => frD (red g a.q))) := ev_call a (eva_cons h (eva_cons k (eva_cons l eva_nil))) hp
end
end Cut
end
section
namespace Cut
open PySem PySem.Spec PyProof.Rows L2
local macro_rules | `(tactic| walk_at "nk") => `(tactic| first | dsimp only [cxOf, Cx.nox, Cx.wish, Cx.blk] | skip)
local macro_rules | `(tactic| walk_at "im") => `(tactic| first
  | assumption
  | exact Im.int _ | exact Im.str _ | exact Im.bl _ | exact Im.non
  | (refine Im.same (by assumption) ?_; walk_at "im"))
local macro_rules | `(tactic| walk_at "side") => `(tactic| first | assumption | rfl | omega)
local macro_rules | `(tactic| walk_at "ev") => `(tactic| first
  | (with_reducible exact ev_int) | (with_reducible exact ev_str) | (with_reducible exact ev_bl) | (with_reducible exact ev_non)
  | ((with_reducible apply ev_varI); rfl; walk_at "im")
  | ((with_reducible apply ev_ixT); walk_at "ev"; walk_at "ev"; walk_at "side")
  | ((with_reducible apply ev_add); walk_at "ev"; walk_at "ev")
  | ((with_reducible apply ev_sub); walk_at "ev"; walk_at "ev")
  | ((with_reducible apply ev_mul); walk_at "ev"; walk_at "ev"; walk_at "side")
  | ((with_reducible apply ev_div); walk_at "ev"; walk_at "ev"; walk_at "side")
  | ((with_reducible apply ev_mod); walk_at "ev"; walk_at "ev"; walk_at "side")
  | ((with_reducible apply ev_eqI); walk_at "ev"; walk_at "ev")
  | ((with_reducible apply ev_neI); walk_at "ev"; walk_at "ev")
  | ((with_reducible apply ev_eqS); walk_at "ev"; walk_at "ev")
  | ((with_reducible apply ev_neS); walk_at "ev"; walk_at "ev")
  | ((with_reducible apply ev_cmp); walk_at "ev"; walk_at "ev")
  | ((with_reducible apply ev_tup1); walk_at "ev")
  | ((with_reducible apply ev_tup2); walk_at "ev"; walk_at "ev")
  | ((with_reducible apply ev_tup3); walk_at "ev"; walk_at "ev"; walk_at "ev")
  | ((with_reducible apply ev_tup4); walk_at "ev"; walk_at "ev"; walk_at "ev"; walk_at "ev")
  | ((with_reducible apply ev_tup5); walk_at "ev"; walk_at "ev"; walk_at "ev"; walk_at "ev"; walk_at "ev")
  | ((with_reducible apply ev_lenT); walk_at "ev")
  | ((with_reducible apply ev_abs); walk_at "ev")
  | ((with_reducible apply ev_tupleL); walk_at "ev")
  | ((with_reducible apply ev_notV); walk_at "ev")
  | assumption)

/-! streams of a web -/
theorem mkNet_app {ν : Type} : ∀ (as as' : List (ν × ν × Fr)) (ws ws' gs gs' : List Int), ws.length = as.length → gs.length = as.length → mkNet (as ++ as') (ws ++ ws') (gs ++ gs') = mkNet as ws gs ++ mkNet as' ws' gs'
  | [], as', [], ws', [], gs', _, _ => rfl
  | [], _, _ :: _, _, _, _, h, _ => by simp at h
  | [], _, [], _, _ :: _, _, _, h => by simp at h
  | _ :: _, _, [], _, _, _, h, _ => by simp at h
  | _ :: _, _, _ :: _, _, [], _, _, h => by simp at h
  | a :: as, as', w :: ws, ws', g :: gs, gs', h, k => by
    show (⟨a.1, a.2.1, w, g⟩ : Ar ν) :: mkNet (as ++ as') (ws ++ ws') (gs ++ gs') = _
    rw [mkNet_app as as' ws ws' gs gs' (by simpa using h) (by simpa using k)]
    rfl
theorem mkNet_zip {α ν : Type} (f : α → ν × ν × Fr) (c : α → Int) : ∀ (l : List α) (gs : List Int), gs.length = l.length → mkNet (l.map f) (l.map c) gs = (l.zip gs).map fun z => ⟨(f z.1).1, (f z.1).2.1, c z.1, z.2⟩
  | [], [], _ => rfl
  | [], _ :: _, h => by simp at h
  | _ :: _, [], h => by simp at h
  | a :: l, g :: gs, h => by
    show (⟨(f a).1, (f a).2.1, c a, g⟩ : Ar ν) :: mkNet (l.map f) (l.map c) gs = _
    rw [mkNet_zip f c l gs (by simpa using h)]
    rfl
def arcsOf (W : Web) (L : Fr) : List (Str × Str × Fr) := W.places.map (fun z => (spring, z.n, intoF L z)) ++ (W.ties.map (fun t => (t.x, t.y, thruF t)) ++ W.places.map fun z => (z.n, drain, outF L z))
def capsOf (W : Web) (L : Fr) : List Int := W.places.map (ic L.1 L.2) ++ (W.ties.map (tc L.2) ++ W.places.map (oc L.1 L.2))
theorem arcsOf_len (W : Web) (L : Fr) : (arcsOf W L).length = W.places.length + (W.ties.length + W.places.length) := by
  unfold arcsOf
  rw [List.length_append, List.length_append, List.length_map, List.length_map, List.length_map]
theorem capsOf_len (W : Web) (L : Fr) : (capsOf W L).length = W.places.length + (W.ties.length + W.places.length) := by
  unfold capsOf
  rw [List.length_append, List.length_append, List.length_map, List.length_map, List.length_map]
theorem mkNet_of {W : Web} {L : Fr} {fi ft fo : List Int} (li : fi.length = W.places.length) (lt : ft.length = W.ties.length) (lo : fo.length = W.places.length) :
    mkNet (arcsOf W L) (capsOf W L) (fi ++ (ft ++ fo)) = netOf W L.1 L.2 fi ft fo := by
  unfold arcsOf capsOf netOf
  rw [mkNet_app _ _ _ _ _ _ (by rw [List.length_map, List.length_map]) (by rw [List.length_map, li]), mkNet_app _ _ _ _ _ _ (by rw [List.length_map, List.length_map]) (by rw [List.length_map, lt]), mkNet_zip _ _ _ _ li, mkNet_zip _ _ _ _ lt, mkNet_zip _ _ _ _ lo]
theorem app_get {α β : Type} {Q : α → β → Prop} {l l' : List α} {m m' : List β} (hl : m.length = l.length) (h : ∀ (i : Nat) (x : α) (y : β), l[i]? = some x → m[i]? = some y → Q x y) (k : ∀ (i : Nat) (x : α) (y : β), l'[i]? = some x → m'[i]? = some y → Q x y) :
    ∀ (i : Nat) (x : α) (y : β), (l ++ l')[i]? = some x → (m ++ m')[i]? = some y → Q x y := fun i x y hx hy => by
  rcases Nat.lt_or_ge i l.length with q | q
  · rw [List.getElem?_append_left q] at hx
    rw [List.getElem?_append_left (by omega)] at hy
    exact h i x y hx hy
  · rw [List.getElem?_append_right q] at hx
    rw [List.getElem?_append_right (by omega), hl] at hy
    exact k _ x y hx hy
theorem map_get2 {α β γ : Type} {Q : β → γ → Prop} {l : List α} {f : α → β} {g : α → γ} (h : ∀ a ∈ l, Q (f a) (g a)) : ∀ (i : Nat) (x : β) (y : γ), (l.map f)[i]? = some x → (l.map g)[i]? = some y → Q x y := fun i x y hx hy => by
  rw [List.getElem?_map] at hx hy
  cases e : l[i]? with
  | none => rw [e] at hx; cases hx
  | some a =>
    rw [e] at hx hy
    obtain rfl := Option.some.inj hx
    obtain rfl := Option.some.inj hy
    exact h a (List.mem_of_getElem? e)
theorem arcs_fr {W : Web} {L : Fr} (hw : WebOk W) (hl : PrOk W L) : ∀ (i : Nat) (x : Str × Str × Fr) (c : Int), (arcsOf W L)[i]? = some x → (capsOf W L)[i]? = some c → Fw L.2 x.2.2 c ∧ 0 ≤ c := by
  refine app_get (by rw [List.length_map, List.length_map]) (map_get2 fun z hz => ⟨into_fw hw hl hz, (ic_bd hw hl hz).1⟩) ?_
  exact app_get (by rw [List.length_map, List.length_map]) (map_get2 fun z hz => ⟨thru_fw hw hl hz, Int.le_of_lt (tc_bd hw hl hz).1⟩) (map_get2 fun z hz => ⟨out_fw hw hl hz, (oc_bd hw hl hz).1⟩)
/-- by number -/
theorem range_map {α β : Type} (l : List α) (f : α → β) (d : β) : (List.range l.length).map (fun k => (l[k]?.map f).getD d) = l.map f := by
  refine List.ext_getElem? fun i => ?_
  rw [List.getElem?_map, List.getElem?_map]
  rcases Nat.lt_or_ge i l.length with h | h
  · rw [List.getElem?_range h, List.getElem?_eq_getElem h]
    show some ((l[i]?.map f).getD d) = _
    rw [List.getElem?_eq_getElem h]
    rfl
  · rw [List.getElem?_eq_none (by rw [List.length_range]; exact h), List.getElem?_eq_none h]
    rfl
section
variable {P : Program} {w : World} {K : PySem.W.Frag} {mg : Str → Option Value} {base : Heap}
/-- a row of whole numbers from nought -/
theorem ev_lcr {σ : L2.St} {H : Hp} {wi : TI} {α : Type} {g : TG} {te : TE} {vs : List Nat} (l : List α) (f : α → PyData) (hi : EvI K wi σ H ((List.range l.length).map fun (i : Nat) => PyData.int i)) (hz : l.length ≤ 40000)
    (k : ∀ (i : Nat) a x H1, l[i]? = some a → Same H H1 → Im K H1 x (.int (i : Nat)) → g x (wipe σ vs) H1 fun σ2 H2 => wipe σ2 vs = wipe σ vs ∧ Same H1 H2 ∧ Ev te σ2 H2 (oI K (f a)))
    (gm : ∀ (x : V) (σ : L2.St) (H : Hp) (Q Q' : L2.St → Hp → Prop), (∀ σ' H', Q σ' H' → Q' σ' H') → g x σ H Q → g x σ H Q') : Ev (tLc wi g tYes te vs) σ H (oN K H (l.map f)) :=
  ev_lcmA (List.range l.length) (fun i => .int (i : Nat)) (fun i => (l[i]?.map f).getD .none) hi (by rw [List.length_range]; exact hz) (fun i x H1 hm s p => by
    have hi := List.mem_range.mp hm
    have e := List.getElem?_eq_getElem hi
    rw [e]
    exact k i l[i] x H1 e s p) gm (range_map l f .none)
def sp_arcs_of (K : PySem.W.Frag) : Sp := spD (α := Web × Fr) (fun a => [oI K (webD a.1), oI K (sizesD a.1 a.2)]) (fun a => WebOk a.1 ∧ PrOk a.1 a.2) fun a => oL K ((arcsOf a.1 a.2).map arcD)
theorem pairD_map {α : Type} (l : List α) (f : α → PyData) (g : α → PyData) : pairD (l.map f) (l.map g) = l.map fun a => .tuple [f a, g a] := by
  unfold pairD
  induction l with
  | nil => rfl
  | cons a l ih =>
    rw [List.map_cons, List.map_cons, List.zip_cons_cons, List.map_cons, ih]
    rfl
theorem name_at (W : Web) {i : Nat} {z : Place} (h : W.places[i]? = some z) : atI (W.names.map PyData.str) (i : Int) = some (.str z.n) := atI_nat (by unfold Web.names; rw [List.getElem?_map, List.getElem?_map, h]; rfl)
theorem fr_at {α : Type} {l : List α} {f : α → Fr} {i : Nat} {z : α} (h : l[i]? = some z) : atI ((l.map f).map frD) (i : Int) = some (frD (f z)) := atI_nat (by rw [List.getElem?_map, List.getElem?_map, h]; rfl)
theorem at_arcs_of (T : Tx K mg) : At P w K mg base 2 "arcs_of" ["web", "sizes"] (sp_arcs_of K) := by
  refine at_of T.d_arcs_of sc_arcs_of (fun _ => rfl) fun f cdv A outer s H vs Q E a hr hp ha q => ?_
  refine ⟨_, (pss_cons (ps_asg (pv 1) (show PG _ _ (gTup K 3 _) from pg_tup rfl (pgs_cons (pg_name (i := 2) sc_arcs_of.nd rfl (Or.inr rfl)) (pgs_cons (pg_name (i := 3) sc_arcs_of.nd rfl (Or.inl rfl)) (pgs_cons (pg_name (i := 4) sc_arcs_of.nd rfl (Or.inr rfl)) pgs_nil)))))
 (pss_cons (ps_set (i := 5) sc_arcs_of.nd rfl (Or.inr rfl) (pe_at (at_names_of T) (hr.mono (by decide)) (by rfl) (pa_cons (pv 0) pa_nil)))
 (pss_cons (ps_setLc (i := 6) rfl sc_arcs_of.nd rfl rfl (sw_true rfl rfl rfl (by decide +kernel)) (pi_range1 (by rfl) T.m_range (pa_cons (pe_callB (r := rLenS K) cr_lenS (by rfl) T.m_len (by decide +kernel) (pa_cons (pv 5) pa_nil)) pa_nil)) (blkOk_by (N := N_arcs_of) (sc := defScope s_arcs_of) (own := [("k", 7)]) (by decide +kernel)) (fun _ _ _ _ _ => (pg_name (i := 7) sc_arcs_of.nd rfl (Or.inl rfl))) (fun _ _ _ _ _ => pts_nil) (fun _ _ _ _ _ => (pe_tup (pa_cons pe_str (pa_cons (pe_ix (r := rIxT K) ix_tup (pv 5) (pv 7) (fun _ _ => rfl)) (pa_cons (pe_ix (r := rIxT K) ix_tup (pv 2) (pv 7) (fun _ _ => rfl)) pa_nil))))))
 (pss_cons (ps_expr (pe_bm PySem.F.plainAttrs_list PySem.F.slot_list_extend PySem.F.type_list_extend mt_extend (pv 6) (pa_cons (pe_lc rfl sc_arcs_of.nd (show PI _ _ _ (RZ.iZipA K _) from RZ.pi_zipA (by rfl) T.m_zip (pa_cons (pe_ix (r := rIxT K) ix_tup (pv 0) pe_int (fun _ _ => rfl)) (pa_cons (pv 3) pa_nil))) (blkOk_by (N := N_arcs_of) (sc := defScope s_arcs_of) (own := [("tie", 8), ("size", 9)]) (by decide +kernel)) (fun _ _ _ _ _ => (show PG _ _ (gTup K 2 _) from pg_tup rfl (pgs_cons (pg_name (i := 8) sc_arcs_of.nd rfl (Or.inl rfl)) (pgs_cons (pg_name (i := 9) sc_arcs_of.nd rfl (Or.inl rfl)) pgs_nil)))) (fun _ _ _ _ _ => pts_nil) (fun _ _ _ _ _ => (pe_tup (pa_cons (pe_ix (r := rIxT K) ix_tup (pv 8) pe_int (fun _ _ => rfl)) (pa_cons (pe_ix (r := rIxT K) ix_tup (pv 8) pe_int (fun _ _ => rfl)) (pa_cons (pv 9) pa_nil)))))) pa_nil)))
 (pss_cons (ps_expr (pe_bm PySem.F.plainAttrs_list PySem.F.slot_list_extend PySem.F.type_list_extend mt_extend (pv 6) (pa_cons (pe_lc rfl sc_arcs_of.nd (pi_range1 (by rfl) T.m_range (pa_cons (pe_callB (r := rLenS K) cr_lenS (by rfl) T.m_len (by decide +kernel) (pa_cons (pv 5) pa_nil)) pa_nil)) (blkOk_by (N := N_arcs_of) (sc := defScope s_arcs_of) (own := [("k", 7)]) (by decide +kernel)) (fun _ _ _ _ _ => (pg_name (i := 7) sc_arcs_of.nd rfl (Or.inl rfl))) (fun _ _ _ _ _ => pts_nil) (fun _ _ _ _ _ => (pe_tup (pa_cons (pe_ix (r := rIxT K) ix_tup (pv 5) (pv 7) (fun _ _ => rfl)) (pa_cons pe_str (pa_cons (pe_ix (r := rIxT K) ix_tup (pv 4) (pv 7) (fun _ _ => rfl)) pa_nil)))))) pa_nil)))
 (pss_one (ps_ret (pv 6)))))))), ?_⟩
  walk_at "nk"
  obtain ⟨v1, v2, rfl, h1, h2⟩ := oall2 ha
  obtain ⟨W, L⟩ := a
  have hw : WebOk W := hp.1
  have hl : PrOk W L := hp.2
  have h1 : Im K H v1 (webD W) := h1
  have h2 : Im K H v2 (sizesD W L) := h2
  have np := hw.np
  have nt := hw.nt
  refine q_asg (P := oI K (sizesD W L)) (ev_varI (i := 1) rfl h2) fun u H1 s1 p1 => ?_
  refine g_names3 p1 fun u2 u3 u4 k2 k3 k4 => ?_
  refine q_set (ev_names_of (K := K) (W := W) (ev_varI (i := 0) rfl (Im.same s1 h1)) hw) fun u5 H2 s2 p2 => ?_
  have p2 : Im K H2 u5 (.tuple (W.names.map .str)) := p2
  have ln : (W.names.map PyData.str).length = W.places.length := by
    unfold Web.names
    rw [List.length_map, List.length_map]
  have rng : ∀ {σ : L2.St} {H9 : Hp}, σ[5]? = some (some u5) → Same H2 H9 → EvI K (iRng1 (tCons (tCB (rLenS K) (tCons (tVar 5) tNil)) tNil)) σ H9 ((List.range W.places.length).map fun (i : Nat) => PyData.int i) := fun e s => by
    have := evi_rng1 (K := K) (ev_lenT (ev_varI e (Im.same s p2))) ⟨by omega, by rw [ln]; omega⟩
    rw [ln] at this
    exact this
  have k2' := k2.same s2
  have k3' := k3.same s2
  have k4' := k4.same s2
  have gm7 := gm_name (i := 7)
  refine q_set (ev_lcr (K := K) W.places (fun z => arcD (spring, z.n, intoF L z)) (rng rfl (Same.refl _)) (by omega) (fun i z x H3 hz s3 p3 => ⟨rfl, Same.refl _, ?_⟩) gm7) fun u6 H3 s3 p3 => ?_
  · exact ev_tup3 ev_str (ev_ixT (ev_varI (i := 5) rfl (Im.same s3 p2)) (ev_varI (i := 7) rfl p3) (name_at W hz)) (ev_ixT (ev_varI (i := 2) rfl (Im.same s3 k2')) (ev_varI (i := 7) rfl p3) (fr_at hz))
  obtain ⟨lf, xf, rfl, nf, ef, if_⟩ := p3
  have l6 := if_.length
  rw [List.length_map] at l6
  have nf0 : H lf = none := (s1.trans s2).free nf
  refine q_ext (K := K) ef (ev_varV (i := 6) rfl) (ds := W.ties.map fun t => arcD (t.x, t.y, thruF t)) (Ev.ls (ev_lcmA W.ties (fun t => .tuple [tieD t, frD (thruF t)]) (fun t => arcD (t.x, t.y, thruF t)) (wi := RZ.iZipA K _) ?_ (by omega) (fun t x H4 ht s4 p4 => g_names2 p4 fun u8 u9 k8 k9 => ⟨rfl, Same.refl _, ?_⟩) (gm_tup (gm_cons gm_name (gm_cons gm_name gm_nil))) rfl)) (by rw [List.length_map]; omega) fun ys H4 s4 i4 => ?_
  · rw [← pairD_map]
    refine evi_zip2 (eva_cons (ev_ixT (i := 2) (ds := [.int W.top, .tuple (W.places.map placeD), .tuple (W.ties.map tieD)]) (ev_varI (i := 0) rfl (Im.same ((s1.trans s2).trans s3) h1)) ev_int rfl) (eva_cons ?_ eva_nil)) (by rw [List.length_map, List.length_map])
    have k3'' : Im K H3 u3 (.tuple (W.ties.map fun t => frD (thruF t))) := by
      have := k3'.same s3
      unfold frsD at this
      rw [List.map_map] at this
      exact this
    exact ev_varI (i := 3) rfl k3''
  · exact ev_tup3 (ev_ixT (i := 0) (ev_varI (i := 8) rfl k8) ev_int rfl) (ev_ixT (i := 1) (ev_varI (i := 8) rfl k8) ev_int rfl) (ev_varI (i := 9) rfl k9)
  have tk4 : TupKeep H4 (upd H4 lf (.lst (xf ++ ys))) := tk_upd (s4 _ _ ef) trivial
  have s24 : TupKeep H2 (upd H4 lf (.lst (xf ++ ys))) := (tk_same (s3.trans s4)).trans tk4
  have i34 := ((if_.same s4).app i4).keep tk4
  have l4 := i4.length
  rw [List.length_map] at l4
  have rng2 : EvI K (iRng1 (tCons (tCB (rLenS K) (tCons (tVar 5) tNil)) tNil)) [some v1, some v2, some u2, some u3, some u4, some u5, some (.ref lf), none, none, none] (upd H4 lf (.lst (xf ++ ys))) ((List.range W.places.length).map fun (i : Nat) => PyData.int i) := by
    have := evi_rng1 (K := K) (σ := [some v1, some v2, some u2, some u3, some u4, some u5, some (.ref lf), none, none, none]) (ev_lenT (ev_varI (i := 5) rfl (p2.keep s24))) ⟨by omega, by rw [ln]; omega⟩
    rw [ln] at this
    exact this
  refine q_ext (K := K) upd_same (ev_varV (i := 6) rfl) (ds := W.places.map fun z => arcD (z.n, drain, outF L z)) (Ev.ls (ev_lcr (K := K) W.places (fun z => arcD (z.n, drain, outF L z)) rng2 (by omega) (fun i z x H5 hz s5 p5 => ⟨rfl, Same.refl _, ?_⟩) gm7)) (by rw [List.length_append, List.length_map]; omega) fun zs H5 s5 i5 => ?_
  rotate_left
  · exact ev_tup3 (ev_ixT (ev_varI (i := 5) rfl (Im.same s5 (p2.keep s24))) (ev_varI (i := 7) rfl p5) (name_at W hz)) ev_str (ev_ixT (ev_varI (i := 4) rfl (Im.same s5 (k4'.keep ((tk_same (s3.trans s4)).trans tk4)))) (ev_varI (i := 7) rfl p5) (fr_at hz))
  have tk5 : TupKeep H5 (upd H5 lf (.lst (xf ++ ys ++ zs))) := tk_upd (s5 _ _ upd_same) trivial
  have i6 := ((i34.same s5).app i5).keep tk5
  have sHf : Same H (upd H5 lf (.lst (xf ++ ys ++ zs))) := by
    have := same_mut (o := .lst (xf ++ ys)) (((s1.trans s2).trans s3).trans s4) nf0
    exact same_mut (this.trans s5) nf0
  refine s_ret (ev_varL (K := K) (i := 6) rfl upd_same i6) fun v H6 s6 p6 => q v H6 (sHf.trans s6) ?_
  have e : (arcsOf W L).map arcD = W.places.map (fun z => arcD (spring, z.n, intoF L z)) ++ W.ties.map (fun t => arcD (t.x, t.y, thruF t)) ++ W.places.map fun z => arcD (z.n, drain, outF L z) := by
    unfold arcsOf
    rw [List.map_append, List.map_append, List.map_map, List.map_map, List.map_map, List.append_assoc]
    rfl
  show LsAt K H6 v ((arcsOf W L).map arcD)
  rw [e]
  exact p6
theorem ev_arcs_of {σ : L2.St} {H : Hp} {ta tb : TE} {W : Web} {L : Fr} (h : Ev ta σ H (oI K (webD W))) (k : Ev tb σ H (oI K (sizesD W L))) (hw : WebOk W) (hl : PrOk W L) : Ev (tCall (sp_arcs_of K) [] E0 (tCons ta (tCons tb tNil))) σ H (oL K ((arcsOf W L).map arcD)) := ev_call (W, L) (eva_cons h (eva_cons k eva_nil)) ⟨hw, hl⟩
/-! the stream, in three parts -/
structure StrA where
  fi : List Int
  ft : List Int
  fo : List Int
def partsD (q : Int) (fs : List Int) : PyData := .tuple (fs.map fun g => frD (red g q))
abbrev streamD (q : Int) (s : StrA) : PyData := .tuple [partsD q s.fi, partsD q s.ft, partsD q s.fo]
def MF (W : Web) (L : Fr) (s : StrA) : Prop := ∃ val, MaxFlow W L.1 L.2 s.fi s.ft s.fo val
def sp_stream_in (K : PySem.W.Frag) : Sp := spD (α := Web × Fr) (fun a => [oI K (webD a.1), oI K (sizesD a.1 a.2)]) (fun a => WebOk a.1 ∧ PrOk a.1 a.2) fun a => oE (MF a.1 a.2) fun s => oI K (streamD a.2.2 s)
theorem cut_lo {ds : List PyData} {k : Nat} (h : k ≤ ds.length) : cutD ds none (some (k : Int)) = ds.take k := by
  unfold cutD
  rw [HT.sIx_none, HT.sIx_nat, Nat.min_eq_left h]
  rfl
theorem cut_hi {ds : List PyData} {k : Nat} (h : k ≤ ds.length) : cutD ds (some (k : Int)) none = ds.drop k := by
  unfold cutD
  rw [HT.sIx_none, HT.sIx_nat, Nat.min_eq_left h]
  exact List.take_of_length_le (by rw [List.length_drop]; exact Nat.le_refl _)
theorem cut_mid {ds : List PyData} {k j : Nat} (h : k + j ≤ ds.length) : cutD ds (some (k : Int)) (some ((k + j : Nat) : Int)) = (ds.drop k).take j := by
  unfold cutD
  rw [HT.sIx_nat, HT.sIx_nat, Nat.min_eq_left h, Nat.min_eq_left (a := k) (by omega)]
  congr 1
  omega
theorem at_stream_in (T : Tx K mg) : At P w K mg base 5 "stream_in" ["web", "sizes"] (sp_stream_in K) := by
  refine at_of T.d_stream_in sc_stream_in (fun _ => rfl) fun f cdv A outer s H vs Q E a hr hp ha q => ?_
  refine ⟨_, (pss_cons (ps_set (i := 2) sc_stream_in.nd rfl (Or.inl rfl) (pe_at (at_greatest T) (hr.mono (by decide)) (by rfl) (pa_cons (pe_at (at_arcs_of T) (hr.mono (by decide)) (by rfl) (pa_cons (pv 0) (pa_cons (pv 1) pa_nil))) (pa_cons pe_str (pa_cons pe_str pa_nil)))))
 (pss_cons (ps_par (i := 3) (j := 4) rfl sc_stream_in.nd rfl rfl (by decide) rfl rfl (pa_cons (pe_callB (r := rLenS K) cr_lenS (by rfl) T.m_len (by decide +kernel) (pa_cons (pe_ix (r := rIxT K) ix_tup (pv 0) pe_int (fun _ _ => rfl)) pa_nil)) (pa_cons (pe_callB (r := rLenS K) cr_lenS (by rfl) T.m_len (by decide +kernel) (pa_cons (pe_ix (r := rIxT K) ix_tup (pv 0) pe_int (fun _ _ => rfl)) pa_nil)) pa_nil)) rfl)
 (pss_one (ps_ret (pe_tup (pa_cons (pe_callTy (r := rTupleOf K) cr_tupleOf (by rfl) T.m_tuple (by decide +kernel) (pa_cons (pe_slice (r := rSlL K) sl_list (pv 2) po_none (po_some (pv 3))) pa_nil)) (pa_cons (pe_callTy (r := rTupleOf K) cr_tupleOf (by rfl) T.m_tuple (by decide +kernel) (pa_cons (pe_slice (r := rSlL K) sl_list (pv 2) (po_some (pv 3)) (po_some (pe_op op_add (pv 3) (pv 4)))) pa_nil)) (pa_cons (pe_callTy (r := rTupleOf K) cr_tupleOf (by rfl) T.m_tuple (by decide +kernel) (pa_cons (pe_slice (r := rSlL K) sl_list (pv 2) (po_some (pe_op op_add (pv 3) (pv 4))) po_none) pa_nil)) pa_nil)))))))), ?_⟩
  walk_at "nk"
  obtain ⟨v1, v2, rfl, h1, h2⟩ := oall2 ha
  obtain ⟨W, L⟩ := a
  have hw : WebOk W := hp.1
  have hl : PrOk W L := hp.2
  have h1 : Im K H v1 (webD W) := h1
  have h2 : Im K H v2 (sizesD W L) := h2
  have np := hw.np
  have nt := hw.nt
  have la := arcsOf_len W L
  have lc := capsOf_len W L
  refine q_set (ev_greatest (K := K) ⟨arcsOf W L, capsOf W L, L.2, spring, drain⟩ (ev_arcs_of (ev_varI (i := 0) rfl h1) (ev_varI (i := 1) rfl h2) hw hl) ev_str ev_str ⟨?_, ?_, spring_ne, hl.pos, hl.bt2, arcs_fr hw hl⟩) fun u H1 s1 p1 => ?_
  · show (arcsOf W L).length ≤ 40
    omega
  · show (capsOf W L).length = (arcsOf W L).length
    omega
  obtain ⟨gs, ⟨hgl, val, gr, R, r1, r2, rt⟩, pg⟩ := p1
  have hgl : gs.length = W.places.length + (W.ties.length + W.places.length) := hgl.trans la
  have pg : LsAt K H1 u (gs.map fun g => frD (red g L.2)) := pg
  have w0 : ∀ {σ : L2.St} {H9 : Hp}, σ[0]? = some (some v1) → Same H H9 → Ev (tVar 0) σ H9 (oI K (.tuple [.int W.top, .tuple (W.places.map placeD), .tuple (W.ties.map tieD)])) := fun e s => ev_varI e (Im.same s h1)
  refine q_par (eva_cons (ev_lenT (K := K) (ev_ixT (i := 1) (w0 rfl s1) ev_int rfl)) (eva_cons (ev_lenT (K := K) (ev_ixT (i := 2) (w0 rfl s1) ev_int rfl)) eva_nil)) fun u3 u4 H2 s2 p3 p4 => ?_
  obtain rfl := Im.int_inv p3
  obtain rfl := Im.int_inv p4
  rw [List.length_map, List.length_map]
  have pg2 := pg.same s2
  have lg : (gs.map fun g => frD (red g L.2)).length = W.places.length + (W.ties.length + W.places.length) := by rw [List.length_map]; exact hgl
  have n3 : ∀ {H9 : Hp}, Ev (tVar 3) [some v1, some v2, some u, some (.int (W.places.length : Nat)), some (.int (W.ties.length : Nat))] H9 (oI K (.int (W.places.length : Nat))) := ev_varI (i := 3) rfl (Im.int _)
  have n34 : ∀ {H9 : Hp}, Ev (tOp (rI0 fun i j => V.int (i + j)) (tVar 3) (tVar 4)) [some v1, some v2, some u, some (.int (W.places.length : Nat)), some (.int (W.ties.length : Nat))] H9 (oI K (.int ((W.places.length + W.ties.length : Nat) : Int))) := fun {H9} => by
    have := ev_add (K := K) (H := H9) (σ := [some v1, some v2, some u, some (.int (W.places.length : Nat)), some (.int (W.ties.length : Nat))]) (ev_varI (i := 3) rfl (Im.int (W.places.length : Nat))) (ev_varI (i := 4) rfl (Im.int (W.ties.length : Nat)))
    rw [← Int.natCast_add] at this
    exact this
  refine s_ret (ev_tup3 (ev_tupleL (Ev.ls (ev_sliceL (K := K) (ev_varLs (i := 2) rfl pg2) evo_none (evo_some n3)))) (ev_tupleL (Ev.ls (ev_sliceL (K := K) (ev_varLs (i := 2) rfl pg2) (evo_some n3) (evo_some n34)))) (ev_tupleL (Ev.ls (ev_sliceL (K := K) (ev_varLs (i := 2) rfl pg2) (evo_some n34) evo_none)))) fun v H3 s3 p => q v H3 ((s1.trans s2).trans s3) ?_
  rw [cut_lo (by omega), cut_mid (by omega), cut_hi (by omega), ← List.map_take, ← List.map_drop, ← List.map_drop, ← List.map_take] at p
  have sp : gs = gs.take W.places.length ++ ((gs.drop W.places.length).take W.ties.length ++ gs.drop (W.places.length + W.ties.length)) := by
    conv => lhs; rw [← List.take_append_drop W.places.length gs]
    congr 1
    rw [← List.drop_drop]
    exact (List.take_append_drop _ _).symm
  have l1 : (gs.take W.places.length).length = W.places.length := by rw [List.length_take]; omega
  have l2 : ((gs.drop W.places.length).take W.ties.length).length = W.ties.length := by rw [List.length_take, List.length_drop]; omega
  have l3 : (gs.drop (W.places.length + W.ties.length)).length = W.places.length := by rw [List.length_drop]; omega
  have en := mkNet_of (W := W) (L := L) l1 l2 l3
  rw [← sp] at en
  have gr : Gr (mkNet (arcsOf W L) (capsOf W L) gs) spring drain val := gr
  have rt : Tight (mkNet (arcsOf W L) (capsOf W L) gs) R := rt
  rw [en] at gr rt
  exact ⟨⟨_, _, _⟩, ⟨val, ⟨l1, l2, l3, gr.caps, gr.pot, R, r1, r2, rt⟩⟩, p⟩
theorem ev_stream_in {σ : L2.St} {H : Hp} {ta tb : TE} {W : Web} {L : Fr} (h : Ev ta σ H (oI K (webD W))) (k : Ev tb σ H (oI K (sizesD W L))) (hw : WebOk W) (hl : PrOk W L) : Ev (tCall (sp_stream_in K) [] E0 (tCons ta (tCons tb tNil))) σ H (oE (MF W L) fun s => oI K (streamD L.2 s)) := ev_call (W, L) (eva_cons h (eva_cons k eva_nil)) ⟨hw, hl⟩
def sp_stream_at (K : PySem.W.Frag) : Sp := spD (α := Web × Fr) (fun a => [oI K (webD a.1), oI K (frD a.2)]) (fun a => WebOk a.1 ∧ PrOk a.1 a.2) fun a => oE (MF a.1 a.2) fun s => oI K (streamD a.2.2 s)
theorem at_stream_at (T : Tx K mg) : At P w K mg base 6 "stream_at" ["web", "price"] (sp_stream_at K) := by
  refine at_of T.d_stream_at sc_stream_at (fun _ => rfl) fun f cdv A outer s H vs Q E a hr hp ha q => ?_
  refine ⟨_, (pss_one (ps_ret (pe_at (at_stream_in T) (hr.mono (by decide)) (by rfl) (pa_cons (pv 0) (pa_cons (pe_at (at_sizes_at T) (hr.mono (by decide)) (by rfl) (pa_cons (pv 0) (pa_cons (pv 1) pa_nil))) pa_nil))))), ?_⟩
  walk_at "nk"
  obtain ⟨v1, v2, rfl, h1, h2⟩ := oall2 ha
  exact s_ret (ev_stream_in (ev_varI (i := 0) rfl h1) (ev_sizes_at (ev_varI (i := 0) rfl h1) (ev_varI (i := 1) rfl h2) hp.1 hp.2) hp.1 hp.2) q
theorem ev_stream_at {σ : L2.St} {H : Hp} {ta tb : TE} {W : Web} {L : Fr} (h : Ev ta σ H (oI K (webD W))) (k : Ev tb σ H (oI K (frD L))) (hw : WebOk W) (hl : PrOk W L) : Ev (tCall (sp_stream_at K) [] E0 (tCons ta (tCons tb tNil))) σ H (oE (MF W L) fun s => oI K (streamD L.2 s)) := ev_call (W, L) (eva_cons h (eva_cons k eva_nil)) ⟨hw, hl⟩
/-! what goes in each part -/
structure Small (q : Int) (fs : List Int) : Prop where
  q0 : 0 < q
  qb : Bt 600 q
  len : fs.length ≤ 16
  bd : ∀ f ∈ fs, 0 ≤ f ∧ f ≤ 100000000000000000
theorem mf_small {W : Web} {L : Fr} {s : StrA} (hw : WebOk W) (hl : PrOk W L) (m : MF W L s) : Small L.2 s.fi ∧ Small L.2 s.ft ∧ Small L.2 s.fo := by
  obtain ⟨val, m⟩ := m
  have np := hw.np
  have nt := hw.nt
  have li := m.li
  have lt := m.lt
  have lo := m.lo
  have mem : ∀ {α : Type} {l : List α} {fs : List Int} {f : Int}, fs.length = l.length → f ∈ fs → ∃ a, (a, f) ∈ l.zip fs ∧ a ∈ l := fun {α l fs f} h hf => by
    obtain ⟨i, hi, rfl⟩ := List.mem_iff_getElem.mp hf
    have e : (l.zip fs)[i]? = some (l[i]'(by omega), fs[i]) := List.getElem?_zip_eq_some.mpr ⟨List.getElem?_eq_getElem _, List.getElem?_eq_getElem _⟩
    exact ⟨_, List.mem_of_getElem? e, List.getElem_mem _⟩
  refine ⟨⟨hl.pos, hl.bt2, by omega, fun f hf => ?_⟩, ⟨hl.pos, hl.bt2, by omega, fun f hf => ?_⟩, ⟨hl.pos, hl.bt2, by omega, fun f hf => ?_⟩⟩
  · obtain ⟨z, hz, hm⟩ := mem li hf
    have := m.caps ⟨spring, z.n, ic L.1 L.2 z, f⟩ (List.mem_append_left _ (List.mem_map.mpr ⟨_, hz, rfl⟩))
    have b := ic_bd hw hl hm
    have this : 0 ≤ f ∧ f ≤ ic L.1 L.2 z := this
    omega
  · obtain ⟨z, hz, hm⟩ := mem lt hf
    have := m.caps ⟨z.x, z.y, tc L.2 z, f⟩ (List.mem_append_right _ (List.mem_append_left _ (List.mem_map.mpr ⟨_, hz, rfl⟩)))
    have b := tc_bd hw hl hm
    have this : 0 ≤ f ∧ f ≤ tc L.2 z := this
    omega
  · obtain ⟨z, hz, hm⟩ := mem lo hf
    have := m.caps ⟨z.n, drain, oc L.1 L.2 z, f⟩ (List.mem_append_right _ (List.mem_append_right _ (List.mem_map.mpr ⟨_, hz, rfl⟩)))
    have b := oc_bd hw hl hm
    have this : 0 ≤ f ∧ f ≤ oc L.1 L.2 z := this
    omega
theorem red_fw {q g : Int} (h0 : 0 < q) (h : 0 ≤ g ∧ g ≤ 1000000000000000000) : Fw q (red g q) g := ⟨red_fv h0, bt_small (by omega) h.2 (by decide)⟩
def sp_stream_worth (K : PySem.W.Frag) : Sp := spD (α := Int × StrA) (fun a => [oI K (streamD a.1 a.2)]) (fun a => Small a.1 a.2.fi) fun a => oI K (frD (red (sm (fun x => x) a.2.fi) a.1))
theorem sm_bd {fs : List Int} (h : ∀ f ∈ fs, 0 ≤ f ∧ f ≤ 100000000000000000) : 0 ≤ sm (fun x => x) fs ∧ sm (fun x => x) fs ≤ 100000000000000000 * fs.length := by
  induction fs with
  | nil => exact ⟨Int.le_refl _, Int.le_refl _⟩
  | cons a l ih =>
    have h1 := ih fun f hf => h f (List.mem_cons_of_mem _ hf)
    have h2 := h a List.mem_cons_self
    rw [sm_cons, List.length_cons]
    omega
theorem sm_take {α : Type} {g : α → Int} {l : List α} {i : Nat} {a : α} (h : l[i]? = some a) : sm g (l.take (i + 1)) = sm g (l.take i) + g a := by
  rw [List.take_add_one, h, sm_app]
  show _ + (g a + 0) = _
  omega
theorem at_stream_worth (T : Tx K mg) : At P w K mg base 4 "stream_worth" ["stream"] (sp_stream_worth K) := by
  refine at_of T.d_stream_worth sc_stream_worth (fun _ => rfl) fun f cdv A outer s H vs Q E a hr hp ha q => ?_
  obtain ⟨aN, g_NOUGHT_streams, hN⟩ := T.c_NOUGHT_streams
  refine ⟨_, (pss_cons (ps_set (i := 1) sc_stream_worth.nd rfl (Or.inl rfl) (pe_glob (v := .ref aN) (by rfl) g_NOUGHT_streams rfl))
 (pss_cons (ps_for PassesOwn.never rfl (show PI _ _ _ (iTup K _) from pi_tup (pe_ix (r := rIxT K) ix_tup (pv 0) pe_int (fun _ _ => rfl))) (pg_name (i := 2) sc_stream_worth.nd rfl (Or.inl rfl)) (pss_one (ps_set (i := 1) sc_stream_worth.nd rfl (Or.inl rfl) (pe_at (at_plus T) (hr.mono (by decide)) (by rfl) (pa_cons (pv 1) (pa_cons (pv 2) pa_nil))))))
 (pss_one (ps_ret (pv 1))))), ?_⟩
  walk_at "nk"
  obtain ⟨v1, rfl, h1⟩ := oall1 ha
  obtain ⟨qq, s⟩ := a
  have hp : Small qq s.fi := hp
  have h1 : Im K H v1 (streamD qq s) := h1
  have n0 : ∀ H1, Im K H1 (.ref aN) (frD (0, 1)) := fun H1 => Im.tup (hN H1) (.cons (Im.int _) (.one (Im.int _)))
  refine q_set (ev_c (P := oI K (frD (0, 1))) (n0 _)) fun u H1 s1 p1 => ?_
  have pt : ∀ i, 0 ≤ sm (fun x => x) (s.fi.take i) ∧ sm (fun x => x) (s.fi.take i) ≤ 1000000000000000000 * 2 := fun i => by
    have := sm_bd (fs := s.fi.take i) fun f hf => hp.bd f (List.mem_of_mem_take hf)
    have h2 : (s.fi.take i).length ≤ 16 := by rw [List.length_take]; have := hp.len; omega
    omega
  refine q_for (evi_tup (ev_ixT (i := 0) (d := partsD qq s.fi) (ev_varI (i := 0) rfl (Im.same s1 h1)) ev_int rfl)) fun H2 s2 => ?_
  refine ⟨fun i σ' H' => ∃ x u x2, σ' = [some v1, some u, x2] ∧ Same H H' ∧ TupKeep H2 H' ∧ Im K H' u (frD x) ∧ Fv x (sm (fun x => x) (s.fi.take i)) qq, ⟨(0, 1), u, none, rfl, s1.trans s2, TupKeep.refl _, Im.same s2 p1, ?_⟩, fun i σ' H' ⟨_, _, _, _, _, k, _⟩ => k, ?_, ?_⟩
  · have := fv_intd (n := 0) (d := qq)
    rw [Int.zero_mul] at this
    exact this
  · rintro i d y σ' H' H'' hd ⟨x, u, x2, rfl, sH, tk, hu, fx⟩ smm hy
    obtain ⟨g, hg, rfl, hm⟩ := get_map hd
    have hg0 := hp.bd g hm
    have fg := red_fw hp.q0 (g := g) ⟨hg0.1, by omega⟩
    have bx : Bf 1000 x := by
      obtain ⟨t1, t2⟩ := fv_top hp.q0 fx
      have b1 : Bt 600 (sm (fun x => x) (s.fi.take i)) := by
        have := pt i
        have : Bt 100 (sm (fun x => x) (s.fi.take i)) := by
          unfold Bt
          have e : (2 : Nat) ^ 100 = 1267650600228229401496703205376 := by decide
          rw [e]
          omega
        exact this.mono (by decide)
      exact ⟨(b1.of t1).mono (by decide), (hp.qb.of t2).mono (by decide)⟩
    refine s_set (ev_plus (K := K) (x := x) (y := red g qq) (ev_varI (i := 1) rfl (Im.same smm hu)) (ev_varI (i := 2) rfl hy) bx (fg.bf hp.q0 hp.qb) fx.can.1 fg.pos) fun u2 H3 s3 p3 => ?_
    refine ⟨_, u2, _, rfl, (sH.trans smm).trans s3, tk.trans (tk_same (smm.trans s3)), p3, ?_⟩
    rw [sm_take hg]
    exact fv_add hp.q0 fx fg.v
  · rintro σ' H' ⟨x, u, x2, rfl, sH, tk, hu, fx⟩
    rw [List.length_map, List.take_length] at fx
    refine s_ret (ev_varI (K := K) (i := 1) rfl hu) fun v H3 s3 p3 => q v H3 (sH.trans s3) ?_
    have e : x = red (sm (fun x => x) s.fi) qq := fv_uniq hp.q0 fx (red_fv hp.q0)
    rw [← e]
    exact p3
theorem ev_stream_worth {σ : L2.St} {H : Hp} {ta : TE} (q : Int) (s : StrA) (h : Ev ta σ H (oI K (streamD q s))) (hp : Small q s.fi) : Ev (tCall (sp_stream_worth K) [] E0 (tCons ta tNil)) σ H (oI K (frD (red (sm (fun x => x) s.fi) q))) := ev_call (q, s) (eva_cons h eva_nil) hp
end
end Cut
end
section
set_option maxHeartbeats 1000000
namespace Cut
open PySem PySem.Spec PyProof.Rows L2
/-! enumerate over a tuple, zip of three tuples -/
/-- the tuple at a, each item in a new pair with its number -/
def ItET (K : PySem.W.Frag) (a : Addr) : It where
  go := fun i H => ∃ (xs : List V) (x : V), SqT K H a xs ∧ xs[i]? = some x
  yld := fun i H v H' => ∃ T x, v = .ref T ∧ H T = none ∧ H' = upd H T (.tup [.int (i : Nat), x]) ∧ ∀ xs, SqT K H a xs → xs[i]? = some x
  stop := fun i H => ∃ xs : List V, SqT K H a xs ∧ xs.length ≤ i
theorem hd_in1 {A : Around} (h : A.handled = none) : A.in1.handled = none := h
theorem turn_enumT {P : Program} {w : World} {K : PySem.W.Frag} {elts : List Expr} {kk : Nat} {tpos : Pos} (a e it : Addr) :
    Turn P w K (.Tuple elts kk tpos) (ItET K a) [e, it] e (fun i h => (∃ old, IsEnum h e it ((i : Nat) : Int) old) ∧ h.IsTupleIter it a i ∧ e ≠ it ∧ a ≠ it ∧ e ≠ a) where
  mem := List.mem_cons_self
  obj := fun i h st b hb => by
    obtain ⟨⟨old, he⟩, ⟨o, ho, hc, hd⟩, _⟩ := st
    rcases List.mem_cons.mp hb with z | z
    · subst z
      exact ⟨_, he, fun v q => nomatch q⟩
    · obtain rfl := List.mem_singleton.mp z
      exact ⟨o, ho, fun v q => by rw [hd] at q; cases q⟩
  keep := fun i h h' st k => by
    obtain ⟨⟨old, he⟩, hi, hne⟩ := st
    exact ⟨⟨old, k _ List.mem_cons_self _ he⟩, hi.at fun o q => k _ (List.mem_cons_of_mem _ List.mem_cons_self) o q, hne⟩
  item := by
    intro X hP hw hK hcalm i pins s σ H E I hf st hg
    subst hP hw hK
    obtain ⟨⟨old, he⟩, hit, hne, hai, hea⟩ := st
    obtain ⟨xs, x, hxs, hx⟩ := hg
    obtain ⟨its, rv, pt, _⟩ := I.tuple hxs
    obtain ⟨u, hu, ru⟩ := rv.get hx
    have pt : s.heap.IsTuple a its.toArray := pt
    have hel := Heap.lt_size he
    have hil : it < s.heap.objs.size := by
      obtain ⟨_, z, _⟩ := hit
      exact Heap.lt_size z
    have hlt : i < its.toArray.size := by
      have := (List.getElem?_eq_some_iff.mp hu).1
      simpa using this
    refine wpAny_pyNext_enum_itemD (Draws.tuple (hd_in1 (I.ok.hd hcalm)) it a hai its.toArray) he ⟨hit, pt⟩ hlt hne (fun q => by
      rcases List.mem_cons.mp q with z | z
      · exact hne z
      · exact hea (List.mem_singleton.mp z)) fun y h' tk hy ho st' hT _ hk => ?_
    obtain rfl : u = y := by
      have e1 : its.toArray[i]? = some u := by simpa using hu
      exact Option.some.inj (e1.symm.trans hy)
    refine ⟨_, rfl, wpAny_letOwnedTupleGo_enum (s := { s with heap := h', toks := tk + 1 }) ho fun h2 he2 sb => ?_⟩
    have hT2 := (sb.2 s.heap.objs.size (Nat.ne_of_gt hel)).trans hT
    have nw : ObjOk X.prog X.w (upd H s.heap.objs.size (.tup [.int (i : Nat), x])) h2 s.heap.objs.size (.tup [.int (i : Nat), x]) :=
      ⟨(by decide : 2 ≤ sizeLine), [.int i tk, u], .cons ⟨tk, rfl⟩ (.cons ru .nil), ⟨_, hT2, rfl, _, rfl⟩⟩
    have I2 := I.turnedNew (t' := tk + 1) (ch := [e, it]) (h' := h2) (fun b ob hb z => (sb.2 b fun y => hb (by rw [y]; exact List.mem_cons_self)).trans (hk b ob (fun y => hb (by rw [y]; exact List.mem_cons_self)) (fun y => hb (by rw [y]; exact List.mem_cons_of_mem _ List.mem_cons_self)) z)) hf (Nat.le_refl _) nw
    refine ⟨.ref s.heap.objs.size, _, I2, rfl, ⟨_, x, rfl, I.hok.fresh (Nat.le_refl _), rfl, fun zs hz => by rw [I.tuple_inj hz hxs]; exact hx⟩, ⟨⟨u, ?_⟩, st'.1.at fun o z => (sb.2 it (Ne.symm hne)).trans z, hne, hai, hea⟩, fun b hb => ?_⟩
    · show IsEnum h2 e it (((i + 1 : Nat) : Nat) : Int) u
      rw [Int.natCast_add]
      exact he2
    · have lt : b < s.heap.objs.size := by
        rcases List.mem_cons.mp hb with z | z
        · rw [z]; exact hel
        · rw [List.mem_singleton.mp z]; exact hil
      rw [upd_ne (Nat.ne_of_lt lt)]
      exact (hf b hb).1
  done := by
    intro X hP hw hK hcalm i pins s σ H E I hf st hg
    subst hP hw hK
    obtain ⟨⟨old, he⟩, hit, hne, hai, hea⟩ := st
    obtain ⟨xs, hxs, hle⟩ := hg
    obtain ⟨its, rv, pt, _⟩ := I.tuple hxs
    have pt : s.heap.IsTuple a its.toArray := pt
    obtain ⟨f0, f1, f2, f3, f4, f5⟩ := hf it (List.mem_cons_of_mem _ List.mem_cons_self)
    have ln := rv.length
    have D : Draws X.prog X.w X.A.in1 it [it, a] i (fun i v => its.toArray[i]? = some v) (fun j h => j = i ∧ h.IsTupleIter it a i ∧ h.IsTuple a its.toArray) := by
      refine ⟨fun _ _ st => let ⟨o, ho, _⟩ := st.2.1; ⟨o, ho⟩, fun _ _ _ st hk => ⟨st.1, st.2.1.at fun o z => hk it List.mem_cons_self o z, st.2.2.at fun o z => hk a (List.mem_cons_of_mem _ List.mem_cons_self) o z⟩, fun j s Q E hj st hQ => absurd st.1 (by omega), fun s Q E st hE => ?_⟩
      exact wpAny_nextOf_tuple_end (hd_in1 (I.ok.hd hcalm)) st.2.1 st.2.2 (by simp; omega) hE
    exact wpAny_pyNext_enum_endD D he ⟨rfl, hit, pt⟩ fun h' eb => ⟨rfl, I.turned (t' := s.toks) (fun b o hb z => eb b o hb z) f0 f1 f3 f4 f5⟩
  self := fun A i s Q E st h => let ⟨⟨_, he⟩, _⟩ := st; wpAny_pyIter_enum he h
theorem meets_enum1 {v : Value} {o : Obj} {C : Heap → Prop} (B : Begins v o C) :
    Meets (Builtin.«enumerate.__new__» ⟨[.type "enumerate", v], []⟩) (fun _ R s => C s.heap ∧
      R (.ok (.ret (.ref (s.heap.push o).objs.size))) { s with heap := (s.heap.push o).push { cls := .type "enumerate", data := .fields #[.none, .bool false, .ref s.heap.objs.size, rawInt 0, .none, .none] } }) :=
  .of_wp fun prog w A R s h => by
    obtain ⟨hp, g, d, tk, os⟩ := s
    obtain ⟨hc, h⟩ := h
    have hsub := sub_enumerate
    have go : ∀ {A' : Around} {E Q : Value → Shared → Prop}, Q (.ref hp.objs.size) ⟨hp.push o, g, d, tk, os⟩ → wpAny (model prog w) A' (pyIter v) Q E ⟨hp, g, d, tk, os⟩ :=
      fun q => B.iter prog w _ _ ⟨hp, g, d, tk, os⟩ _ hc q
    wp_walk using go
    refine wpAny_stack_any fun st => wpAny_pure ?_
    split
    · rename_i c _ _ _ _ _
      cases (c == Value.type "enumerate") <;> (wp_walk using go; exact ⟨_, rfl, h⟩)
    · wp_walk using go
      exact ⟨_, rfl, h⟩
theorem call_enum1 {prog : Program} {w : World} {A : Around} {E Q : Value → Shared → Prop} {s : Shared} {v : Value} {o : Obj} {C : Heap → Prop} (B : Begins v o C) (hc : C s.heap)
    (h : ∀ h', IsEnum h' (s.heap.objs.size + 1) s.heap.objs.size 0 .none → h'.get? s.heap.objs.size = some o → (∀ b ob, s.heap.get? b = some ob → h'.get? b = some ob) → Q (.ref (s.heap.objs.size + 1)) { s with heap := h' }) :
    wpAny (model prog w) A (call (.type "enumerate") [v]) Q E s := by
  refine callType_new F.called_enumerate (by decide) (F.typeCall_enumerate_1 _) (F.newCall_enumerate_1 _) (fun obj => F.args_object_init_2 obj _) F.entry_enumerate_new (meets_enum1 B) ⟨hc, ?_⟩
  have sz : (s.heap.push o).objs.size = s.heap.objs.size + 1 := Heap.size_push ..
  show _ ∧ _
  rw [sz]
  have en : IsEnum ((s.heap.push o).push { cls := .type "enumerate", data := .fields #[.none, .bool false, .ref s.heap.objs.size, rawInt 0, .none, .none] }) (s.heap.objs.size + 1) s.heap.objs.size 0 .none := by
    have q := Heap.get?_push_size (s.heap.push o) (o := { cls := .type "enumerate", data := .fields #[.none, .bool false, .ref s.heap.objs.size, rawInt 0, .none, .none] }) rfl
    rw [sz] at q
    exact q
  exact ⟨⟨_, en, rfl⟩, h _ en (Heap.get?_push_of_some _ (Heap.get?_push_size _ B.free)) fun b ob z => Heap.get?_push_of_some _ (Heap.get?_push_of_some _ z)⟩
def iEnumT (K : PySem.W.Frag) (ta : TA) : TI := fun σ H R => ta σ H fun vs H1 => ∃ a xs, vs = [.ref a] ∧ SqT K H1 a xs ∧ R (ItET K a) H1
theorem tup_lt {h : Heap} {a : Addr} {its : Array Value} (p : h.IsTuple a its) : a < h.objs.size := by
  obtain ⟨o, e, _⟩ := p
  exact Heap.lt_size e
theorem pi_enumT {X : Cx} {e : Expr} {ta : TA} {p pos tpos : Pos} {elts : List Expr} {kk : Nat} (hg : Gl X "enumerate") (hm : X.mg "enumerate" = none) (ha : PA X [e] ta) (hs : starEach [e] X.env = [(false, eval e X.env)] := by rfl) :
    PI X (.Tuple elts kk tpos) (.Call (.Name "enumerate" p) [e] [] pos) (iEnumT X.K ta) := by
  refine ⟨fun pins s σ H R I h => Call_ (ld_blt I hg hm boot_enumerate (PyProof.Rows.callWith_type1 (thn (ha.run pos pins s σ H _ I h) fun us s1 ⟨vs, H1, I1, r1, q1⟩ => ?_) hs rfl))⟩
  obtain ⟨a, xs, rfl, hq, q⟩ := q1
  cases r1 with
  | cons r rr =>
    cases rr
    cases r
    obtain ⟨its, rv, pt, _⟩ := I1.tuple hq
    have pt : s1.heap.IsTuple a its.toArray := pt
    have al := tup_lt pt
    refine call_enum1 (begins_tuple a its.toArray) pt fun h' he hit hk => wpAny_pyIter_enum he ?_
    have I2 : Inv X pins σ H1 { s1 with heap := h' } := I1.kept (t' := s1.toks) hk
    refine ⟨_, [s1.heap.objs.size + 1, s1.heap.objs.size], _, _, H1, rfl, I2, turn_enumT a (s1.heap.objs.size + 1) s1.heap.objs.size, ⟨⟨.none, he⟩, ⟨_, hit, rfl, rfl⟩, Nat.succ_ne_self _, Nat.ne_of_lt al, Nat.ne_of_gt (Nat.lt_succ_of_lt al)⟩, fun b hb => ?_, q⟩
    have le : s1.heap.objs.size ≤ b := by
      rcases List.mem_cons.mp hb with z | z
      · rw [z]; exact Nat.le_succ _
      · rw [List.mem_singleton.mp z]; exact Nat.le_refl _
    exact I1.fpOk le (I1.hok.fresh le)
/-- three tuples side by side -/
def ItZ3 (K : PySem.W.Frag) (a b c : Addr) (n : Nat) : It where
  go := fun i H => i < n ∧ ∃ xs ys zs : List V, (SqT K H a xs ∧ SqT K H b ys ∧ SqT K H c zs) ∧ xs.length = n ∧ ys.length = n ∧ zs.length = n
  yld := fun i H v H' => ∃ T x y z, v = .ref T ∧ H T = none ∧ H' = upd H T (.tup [x, y, z]) ∧ (∀ xs, SqT K H a xs → xs[i]? = some x) ∧ (∀ ys, SqT K H b ys → ys[i]? = some y) ∧ ∀ zs, SqT K H c zs → zs[i]? = some z
  stop := fun i H => i = n ∧ ∃ xs ys zs : List V, (SqT K H a xs ∧ SqT K H b ys ∧ SqT K H c zs) ∧ xs.length = n ∧ ys.length = n ∧ zs.length = n
theorem turn_zip3 {P : Program} {w : World} {K : PySem.W.Frag} {elts : List Expr} {kk : Nat} {tpos : Pos} {a b c z TI TO i1 i2 i3 : Addr} {n : Nat} (S : ZipSep3 z TI TO i1 i2 i3 [i1, a] [i2, b] [i3, c]) (na : a ≠ i1) (nb : b ≠ i2) (nc : c ≠ i3) (nT : TI ≠ i1 ∧ TI ≠ i2 ∧ TI ≠ i3) :
    Turn P w K (.Tuple elts kk tpos) (ItZ3 K a b c n) [z, TI, TO, i1, i2, i3] z (fun i h => IsZip h z TI TO .none ∧ IsTupOf3 h TI (.ref i1) (.ref i2) (.ref i3) ∧ (∃ x y u, IsTupOf3 h TO x y u) ∧ h.IsTupleIter i1 a i ∧ h.IsTupleIter i2 b i ∧ h.IsTupleIter i3 c i) where
  mem := List.mem_cons_self
  obj := fun i h st d hd => by
    obtain ⟨hz, hTI, ⟨x, y, u, hTO⟩, ⟨o1, e1, _, d1⟩, ⟨o2, e2, _, d2⟩, ⟨o3, e3, _, d3⟩⟩ := st
    have q : d = z ∨ d = TI ∨ d = TO ∨ d = i1 ∨ d = i2 ∨ d = i3 := by simpa using hd
    rcases q with rfl | rfl | rfl | rfl | rfl | rfl
    · exact ⟨_, hz, fun v q => nomatch q⟩
    · exact ⟨_, hTI, fun v q => nomatch q⟩
    · exact ⟨_, hTO, fun v q => nomatch q⟩
    · exact ⟨o1, e1, fun v q => by rw [d1] at q; cases q⟩
    · exact ⟨o2, e2, fun v q => by rw [d2] at q; cases q⟩
    · exact ⟨o3, e3, fun v q => by rw [d3] at q; cases q⟩
  keep := fun i h h' st k => by
    obtain ⟨hz, hTI, ⟨x, y, u, hTO⟩, h1, h2, h3⟩ := st
    exact ⟨k z (by simp) _ hz, k TI (by simp) _ hTI, ⟨x, y, u, k TO (by simp) _ hTO⟩, h1.at fun o q => k i1 (by simp) o q, h2.at fun o q => k i2 (by simp) o q, h3.at fun o q => k i3 (by simp) o q⟩
  item := by
    intro X hP hw hK hcalm i pins s σ H E I hf st hg
    subst hP hw hK
    obtain ⟨hz, hTI, ⟨x0, y0, u0, hTO⟩, h1, h2, h3⟩ := st
    obtain ⟨hin, xs, ys, zs, ⟨qx, qy, qz⟩, lx, ly, lz⟩ := hg
    obtain ⟨t1, r1, p1, _⟩ := I.tuple qx
    obtain ⟨t2, r2, p2, _⟩ := I.tuple qy
    obtain ⟨t3, r3, p3, _⟩ := I.tuple qz
    have m1 := r1.length
    have m2 := r2.length
    have m3 := r3.length
    have p1 : s.heap.IsTuple a t1.toArray := p1
    have p2 : s.heap.IsTuple b t2.toArray := p2
    have p3 : s.heap.IsTuple c t3.toArray := p3
    have gx : xs[i]? = some (xs[i]'(by omega)) := List.getElem?_eq_getElem _
    have gy : ys[i]? = some (ys[i]'(by omega)) := List.getElem?_eq_getElem _
    have gz : zs[i]? = some (zs[i]'(by omega)) := List.getElem?_eq_getElem _
    generalize xs[i]'(by omega) = x at gx
    generalize ys[i]'(by omega) = y at gy
    generalize zs[i]'(by omega) = u at gz
    obtain ⟨v1, g1, w1⟩ := r1.get gx
    obtain ⟨v2, g2, w2⟩ := r2.get gy
    obtain ⟨v3, g3, w3⟩ := r3.get gz
    have zl := Heap.lt_size hz
    have hh := hd_in1 (I.ok.hd hcalm)
    refine wpAny_pyNext_zipD3_item S (Draws.tuple hh i1 a na t1.toArray) (Draws.tuple hh i2 b nb t2.toArray) (Draws.tuple hh i3 c nc t3.toArray) hz hTI hTO ⟨h1, p1⟩ ⟨h2, p2⟩ ⟨h3, p3⟩ (by simp; omega) (by simp; omega) (by simp; omega) fun k1 k2 k3 h' tk e1 e2 e3 hz' hTO' s1 s2 s3 hT _ hk => ?_
    obtain rfl : v1 = k1 := Option.some.inj ((show t1.toArray[i]? = some v1 by simpa using g1).symm.trans e1)
    obtain rfl : v2 = k2 := Option.some.inj ((show t2.toArray[i]? = some v2 by simpa using g2).symm.trans e2)
    obtain rfl : v3 = k3 := Option.some.inj ((show t3.toArray[i]? = some v3 by simpa using g3).symm.trans e3)
    refine ⟨_, rfl, wpAny_letOwnedTupleGo_zip (s := { s with heap := h', toks := tk }) hz' fun h2' z2 sb => ?_⟩
    have hT2 := (sb.2 s.heap.objs.size (Nat.ne_of_gt zl)).trans hT
    have nw : ObjOk X.prog X.w (upd H s.heap.objs.size (.tup [x, y, u])) h2' s.heap.objs.size (.tup [x, y, u]) :=
      ⟨(by decide : 3 ≤ sizeLine), [v1, v2, v3], .cons w1 (.cons w2 (.cons w3 .nil)), ⟨_, hT2, rfl, _, rfl⟩⟩
    have I2 := I.turnedNew (t' := tk) (ch := [z, TI, TO, i1, i2, i3]) (h' := h2') (fun d ob hb q => (sb.2 d fun y => hb (by simp [y])).trans (hk d ob (fun y => hb (by simp [y])) (fun y => hb (by simp [y])) (fun y => hb (by simp [y])) (fun y => hb (by simp [y])) (fun y => hb (by simp [y])) q)) hf (Nat.le_refl _) nw
    refine ⟨.ref s.heap.objs.size, _, I2, rfl, ⟨_, x, y, u, rfl, I.hok.fresh (Nat.le_refl _), rfl, fun l hl => by rw [I.tuple_inj hl qx]; exact gx, fun l hl => by rw [I.tuple_inj hl qy]; exact gy, fun l hl => by rw [I.tuple_inj hl qz]; exact gz⟩, ⟨z2, ?_, ⟨v1, v2, v3, ?_⟩, ?_, ?_, ?_⟩, fun d hd => ?_⟩
    · exact (sb.2 _ S.TIz).trans (hk _ _ S.TIz S.TITO nT.1 nT.2.1 nT.2.2 hTI)
    · exact (sb.2 _ S.TOz).trans hTO'
    · exact s1.1.at fun o q => (sb.2 _ (Ne.symm S.zi1)).trans q
    · exact s2.1.at fun o q => (sb.2 _ (Ne.symm S.zi2)).trans q
    · exact s3.1.at fun o q => (sb.2 _ (Ne.symm S.zi3)).trans q
    · have lt : d < s.heap.objs.size := by
        have q : d = z ∨ d = TI ∨ d = TO ∨ d = i1 ∨ d = i2 ∨ d = i3 := by simpa using hd
        rcases q with rfl | rfl | rfl | rfl | rfl | rfl
        · exact zl
        · exact Heap.lt_size hTI
        · exact Heap.lt_size hTO
        · obtain ⟨_, q, _⟩ := h1; exact Heap.lt_size q
        · obtain ⟨_, q, _⟩ := h2; exact Heap.lt_size q
        · obtain ⟨_, q, _⟩ := h3; exact Heap.lt_size q
      rw [upd_ne (Nat.ne_of_lt lt)]
      exact (hf d hd).1
  done := by
    intro X hP hw hK hcalm i pins s σ H E I hf st hg
    subst hP hw hK
    obtain ⟨hz, hTI, ⟨x0, y0, u0, hTO⟩, h1, h2, h3⟩ := st
    obtain ⟨hin, xs, ys, zs, ⟨qx, qy, qz⟩, lx, ly, lz⟩ := hg
    obtain ⟨t1, r1, p1, _⟩ := I.tuple qx
    obtain ⟨t2, r2, p2, _⟩ := I.tuple qy
    obtain ⟨t3, r3, p3, _⟩ := I.tuple qz
    have m1 := r1.length
    have m2 := r2.length
    have m3 := r3.length
    have hh := hd_in1 (I.ok.hd hcalm)
    exact wpAny_pyNext_zipD3_end S (Draws.tuple hh i1 a na t1.toArray) (Draws.tuple hh i2 b nb t2.toArray) (Draws.tuple hh i3 c nc t3.toArray) hz hTI hTO ⟨h1, p1⟩ ⟨h2, p2⟩ ⟨h3, p3⟩ (by simp; omega) (by simp; omega) (by simp; omega) (.inl (by simp; omega)) fun h' tk hk =>
      ⟨rfl, I.turnedL (t' := tk) (ch := [z, TI, TO, i1, i2, i3]) (fun d o hb q => hk d o (fun y => hb (by simp [y])) (fun y => hb (by simp [y])) (fun y => hb (by simp [y])) (fun y => hb (by simp [y])) (fun y => hb (by simp [y])) q) hf⟩
  self := fun A i s Q E st h => wpAny_pyIter_zip st.1 h
def iZip3 (K : PySem.W.Frag) (ta : TA) : TI := fun σ H R => ta σ H fun vs H1 => ∃ a b c xs ys zs, vs = [.ref a, .ref b, .ref c] ∧ SqT K H1 a xs ∧ SqT K H1 b ys ∧ SqT K H1 c zs ∧ R (ItZ3 K a b c xs.length) H1
theorem pi_zip3 {X : Cx} {e e2 e3 : Expr} {ta : TA} {p pos tpos : Pos} {elts : List Expr} {kk : Nat} (hg : Gl X "zip") (hm : X.mg "zip" = none) (ha : PA X [e, e2, e3] ta)
    (hs : starEach [e, e2, e3] X.env = (false, eval e X.env) :: starEach [e2, e3] X.env := by rfl) (hpl : (backTo pos (starEach [e2, e3] X.env)).any (·.1) = false := by rfl) :
    PI X (.Tuple elts kk tpos) (.Call (.Name "zip" p) [e, e2, e3] [] pos) (iZip3 X.K ta) := by
  refine ⟨fun pins s σ H R I h => Call_ (ld_blt I hg hm PyProof.Rows.boot_zip (PyProof.Rows.callWith_type1 (thn (ha.run pos pins s σ H _ I h) fun us s1 ⟨vs, H1, I1, r1, q1⟩ => ?_) hs hpl))⟩
  obtain ⟨a, b, c, xs, ys, zs, rfl, qx, qy, qz, q⟩ := q1
  cases r1 with
  | cons r rr =>
    cases rr with
    | cons r' rr =>
      cases rr with
      | cons r2 rr =>
        cases rr
        cases r
        cases r'
        cases r2
        obtain ⟨t1, v1, p1, _⟩ := I1.tuple qx
        obtain ⟨t2, v2, p2, _⟩ := I1.tuple qy
        obtain ⟨t3, v3, p3, _⟩ := I1.tuple qz
        have p1 : s1.heap.IsTuple a t1.toArray := p1
        have p2 : s1.heap.IsTuple b t2.toArray := p2
        have p3 : s1.heap.IsTuple c t3.toArray := p3
        have l1 := tup_lt p1
        have l2 := tup_lt p2
        have l3 := tup_lt p3
        refine zip_begins3 (begins_tuple a t1.toArray) (begins_tuple b t2.toArray) (begins_tuple c t3.toArray) p1 p2 p3 fun h' hz hTI hTO o1 o2 o3 _ hk => wpAny_pyIter_zip hz ?_
        have I2 : Inv X pins σ H1 { s1 with heap := h' } := I1.kept (t' := s1.toks) hk
        have S := zip_sep3 (N := s1.heap.objs.size) (fp1 := [a]) (fp2 := [b]) (fp3 := [c]) (fun d hd => by rw [List.mem_singleton.mp hd]; exact l1) (fun d hd => by rw [List.mem_singleton.mp hd]; exact l2) (fun d hd => by rw [List.mem_singleton.mp hd]; exact l3)
        refine ⟨_, [s1.heap.objs.size + 5, s1.heap.objs.size + 3, s1.heap.objs.size + 4, s1.heap.objs.size, s1.heap.objs.size + 1, s1.heap.objs.size + 2], _, _, H1, rfl, I2, turn_zip3 S ?_ ?_ ?_ ⟨S.TIi1, S.TIi2, S.TIi3⟩, ⟨hz, hTI, ⟨_, _, _, hTO⟩, ⟨_, o1, rfl, rfl⟩, ⟨_, o2, rfl, rfl⟩, ⟨_, o3, rfl, rfl⟩⟩, fun d hd => ?_, q⟩
        · exact Nat.ne_of_lt l1
        · exact Nat.ne_of_lt (Nat.lt_succ_of_lt l2)
        · exact Nat.ne_of_lt (Nat.lt_succ_of_lt (Nat.lt_succ_of_lt l3))
        · have q : d = s1.heap.objs.size + 5 ∨ d = s1.heap.objs.size + 3 ∨ d = s1.heap.objs.size + 4 ∨ d = s1.heap.objs.size ∨ d = s1.heap.objs.size + 1 ∨ d = s1.heap.objs.size + 2 := by simpa using hd
          have le : s1.heap.objs.size ≤ d := by
            rcases q with z | z | z | z | z | z
            · rw [z]; exact Nat.le_add_right _ _
            · rw [z]; exact Nat.le_add_right _ _
            · rw [z]; exact Nat.le_add_right _ _
            · rw [z]; exact Nat.le_refl _
            · rw [z]; exact Nat.le_add_right _ _
            · rw [z]; exact Nat.le_add_right _ _
          exact I1.fpOk le (I1.hok.fresh le)
/-! what they walk over -/
section
variable {K : PySem.W.Frag} {σ : L2.St} {H : Hp} {te : TE} {ta : TA} {ds es fs : List PyData}
def numD (ds : List PyData) : List PyData := ds.zipIdx.map fun z => .tuple [.int (z.2 : Nat), z.1]
theorem evi_enumT (h : Ev te σ H (oI K (.tuple ds))) : EvI K (iEnumT K (tCons te tNil)) σ H (numD ds) := fun H1 s R q => h H1 s _ fun v H2 s2 p => by
  obtain ⟨a, xs, rfl, h1, h2⟩ := Im.tup_inv p
  refine ⟨a, xs, rfl, h1, q _ H2 s2 ?_⟩
  have ln : (numD ds).length = xs.length := by
    unfold numD
    rw [List.length_map, List.length_zipIdx, h2.length]
  rw [ln]
  refine ⟨fun i H3 hi k => ⟨xs, xs[i], sqT_keep k h1, List.getElem?_eq_getElem hi⟩, fun H3 k => ⟨xs, sqT_keep k h1, Nat.le_refl _⟩, fun i H3 x H' hi k y => ?_⟩
  obtain ⟨T, x1, rfl, nT, rfl, f1⟩ := y
  obtain ⟨d, hd, him⟩ := h2.back (f1 xs (sqT_keep k h1))
  have sm := same_new (o := .tup [.int (i : Nat), x1]) nT
  refine ⟨sm, .tuple [.int (i : Nat), d], ?_, Im.tup (SqT.of upd_same) (.cons (Im.int _) (.one ((him.keep k).same sm)))⟩
  unfold numD
  rw [List.getElem?_map, List.getElem?_zipIdx, hd]
  simp
def tripD (ds es fs : List PyData) : List PyData := (ds.zip (es.zip fs)).map fun z => .tuple [z.1, z.2.1, z.2.2]
theorem evi_zip3 (h : EvA ta σ H [oI K (.tuple ds), oI K (.tuple es), oI K (.tuple fs)]) (hl : es.length = ds.length) (hm : fs.length = ds.length) : EvI K (iZip3 K ta) σ H (tripD ds es fs) := fun H1 s R q => h H1 s _ fun vs H2 s2 p => by
  obtain ⟨w1, w2, w3, rfl, p1, p2, p3⟩ := oall3 p
  obtain ⟨a, xs, rfl, h1, h2⟩ := Im.tup_inv p1
  obtain ⟨b, ys, rfl, k1, k2⟩ := Im.tup_inv p2
  obtain ⟨c, zs, rfl, m1, m2⟩ := Im.tup_inv p3
  refine ⟨a, b, c, xs, ys, zs, rfl, h1, k1, m1, q _ H2 s2 ?_⟩
  have l1 := h2.length
  have l2 := k2.length
  have l3 := m2.length
  have ln : (tripD ds es fs).length = xs.length := by
    unfold tripD
    rw [List.length_map, List.length_zip, List.length_zip]
    omega
  rw [ln]
  refine ⟨fun i H3 hi k => ⟨hi, xs, ys, zs, ⟨sqT_keep k h1, sqT_keep k k1, sqT_keep k m1⟩, rfl, by omega, by omega⟩, fun H3 k => ⟨rfl, xs, ys, zs, ⟨sqT_keep k h1, sqT_keep k k1, sqT_keep k m1⟩, rfl, by omega, by omega⟩, fun i H3 x H' hi k y => ?_⟩
  obtain ⟨T, x1, y1, z1, rfl, nT, rfl, f1, f2, f3⟩ := y
  obtain ⟨d, hd, i1⟩ := h2.back (f1 xs (sqT_keep k h1))
  obtain ⟨e, he, i2⟩ := k2.back (f2 ys (sqT_keep k k1))
  obtain ⟨f, hf, i3⟩ := m2.back (f3 zs (sqT_keep k m1))
  have sm := same_new (o := .tup [x1, y1, z1]) nT
  refine ⟨sm, .tuple [d, e, f], ?_, Im.tup (SqT.of upd_same) (.cons ((i1.keep k).same sm) (.cons ((i2.keep k).same sm) (.one ((i3.keep k).same sm))))⟩
  unfold tripD
  rw [List.getElem?_map, (List.getElem?_zip_eq_some (z := (d, (e, f)))).mpr ⟨hd, (List.getElem?_zip_eq_some (z := (e, f))).mpr ⟨he, hf⟩⟩]
  rfl
end
end Cut
end
section
namespace Cut
open PySem PySem.Spec PyProof.Rows L2
local macro_rules | `(tactic| walk_at "nk") => `(tactic| first | dsimp only [cxOf, Cx.nox, Cx.wish, Cx.blk] | skip)
local macro_rules | `(tactic| walk_at "im") => `(tactic| first
  | assumption
  | exact Im.int _ | exact Im.str _ | exact Im.bl _ | exact Im.non
  | (refine Im.same (by assumption) ?_; walk_at "im"))
local macro_rules | `(tactic| walk_at "side") => `(tactic| first | assumption | rfl | omega)
local macro_rules | `(tactic| walk_at "ev") => `(tactic| first
  | (with_reducible exact ev_int) | (with_reducible exact ev_str) | (with_reducible exact ev_bl) | (with_reducible exact ev_non)
  | ((with_reducible apply ev_varI); rfl; walk_at "im")
  | ((with_reducible apply ev_ixT); walk_at "ev"; walk_at "ev"; walk_at "side")
  | ((with_reducible apply ev_add); walk_at "ev"; walk_at "ev")
  | ((with_reducible apply ev_sub); walk_at "ev"; walk_at "ev")
  | ((with_reducible apply ev_mul); walk_at "ev"; walk_at "ev"; walk_at "side")
  | ((with_reducible apply ev_div); walk_at "ev"; walk_at "ev"; walk_at "side")
  | ((with_reducible apply ev_mod); walk_at "ev"; walk_at "ev"; walk_at "side")
  | ((with_reducible apply ev_eqI); walk_at "ev"; walk_at "ev")
  | ((with_reducible apply ev_neI); walk_at "ev"; walk_at "ev")
  | ((with_reducible apply ev_eqS); walk_at "ev"; walk_at "ev")
  | ((with_reducible apply ev_neS); walk_at "ev"; walk_at "ev")
  | ((with_reducible apply ev_cmp); walk_at "ev"; walk_at "ev")
  | ((with_reducible apply ev_tup1); walk_at "ev")
  | ((with_reducible apply ev_tup2); walk_at "ev"; walk_at "ev")
  | ((with_reducible apply ev_tup3); walk_at "ev"; walk_at "ev"; walk_at "ev")
  | ((with_reducible apply ev_tup4); walk_at "ev"; walk_at "ev"; walk_at "ev"; walk_at "ev")
  | ((with_reducible apply ev_tup5); walk_at "ev"; walk_at "ev"; walk_at "ev"; walk_at "ev"; walk_at "ev")
  | ((with_reducible apply ev_lenT); walk_at "ev")
  | ((with_reducible apply ev_abs); walk_at "ev")
  | ((with_reducible apply ev_tupleL); walk_at "ev")
  | ((with_reducible apply ev_notV); walk_at "ev")
  | assumption)

/-! a stream is one -/
section
variable {P : Program} {w : World} {K : PySem.W.Frag} {mg : Str → Option Value} {base : Heap}
theorem ev_belowF {σ : L2.St} {H : Hp} {ta tb : TE} {q n m : Int} {x y : Fr} (h : Ev ta σ H (oI K (frD x))) (k : Ev tb σ H (oI K (frD y))) (hq : 0 < q) (bq : Bt 600 q) (hx : Fw q x n) (hy : Fw q y m) :
    Ev (tCall (sp_below K) [] E0 (tCons ta (tCons tb tNil))) σ H (oI K (.bool (decide (n < m)))) := by
  have := ev_below h k (hx.bf hq bq) (hy.bf hq bq)
  rw [decide_eq_decide.mpr (fv_lt hq hx.v hy.v)] at this
  exact this
theorem nought_fw {q : Int} : Fw q (0, 1) 0 := ⟨by have := fv_intd (n := 0) (d := q); rw [Int.zero_mul] at this; exact this, bt_small (by decide) (by decide) (by decide)⟩
structure PartA where
  fs : List Int
  xs : List Fr
  cs : List Int
structure PartA.Ok (q : Int) (a : PartA) : Prop where
  q0 : 0 < q
  qb : Bt 600 q
  len : a.fs.length ≤ 16
  lx : a.xs.length = a.fs.length
  lc : a.cs.length = a.fs.length
  ok : ∀ (i : Nat) (f : Int) (x : Fr) (c : Int), a.fs[i]? = some f → a.xs[i]? = some x → a.cs[i]? = some c → Fw q x c ∧ 0 ≤ f ∧ f ≤ c ∧ c ≤ 1000000000000000000
def sp_are_parts (K : PySem.W.Frag) : Sp := spD (α := Int × PartA) (fun a => [oI K (partsD a.1 a.2.fs), oI K (frsD a.2.xs)]) (fun a => a.2.Ok a.1) fun _ => oI K (.bool true)
theorem pairD_get {ds es : List PyData} {i : Nat} {d : PyData} (h : (pairD ds es)[i]? = some d) : ∃ a b, ds[i]? = some a ∧ es[i]? = some b ∧ d = .tuple [a, b] := by
  unfold pairD at h
  rw [List.getElem?_map] at h
  cases e : (ds.zip es)[i]? with
  | none => rw [e] at h; cases h
  | some z =>
    rw [e] at h
    obtain ⟨h1, h2⟩ := List.getElem?_zip_eq_some.mp e
    exact ⟨z.1, z.2, h1, h2, (Option.some.inj h).symm⟩
theorem at_are_parts (T : Tx K mg) : At P w K mg base 3 "are_parts" ["thing", "sizes"] (sp_are_parts K) := by
  refine at_of T.d_are_parts sc_are_parts (fun _ => rfl) fun f cdv A outer s H vs Q E a hr hp ha q => ?_
  obtain ⟨aN, g_NOUGHT_streams, hN⟩ := T.c_NOUGHT_streams
  refine ⟨_, (pss_cons (ps_if (PW.pt (pw_or (pt_not (pt_val (pe_callB (r := rIsi K) call_isi (by rfl) T.m_isinstance (by decide +kernel) (pa_cons (pv 0) (pa_cons (pe_bltn (v := .ty "tuple") (by rfl) T.m_tuple (by decide +kernel) rfl) pa_nil))))) (pw_or1 (pt_cmpR op_ne (pe_callB (r := rLenS K) cr_lenS (by rfl) T.m_len (by decide +kernel) (pa_cons (pv 0) pa_nil)) (pe_callB (r := rLenS K) cr_lenS (by rfl) T.m_len (by decide +kernel) (pa_cons (pv 1) pa_nil)) (nomark _))))) (pss_one (ps_ret pe_bl)) pss_nil)
 (pss_cons (ps_for PassesOwn.never rfl (show PI _ _ _ (RZ.iZipA K _) from RZ.pi_zipA (by rfl) T.m_zip (pa_cons (pv 0) (pa_cons (pv 1) pa_nil))) (show PG _ _ (gTup K 2 _) from pg_tup rfl (pgs_cons (pg_name (i := 2) sc_are_parts.nd rfl (Or.inl rfl)) (pgs_cons (pg_name (i := 3) sc_are_parts.nd rfl (Or.inl rfl)) pgs_nil))) (pss_one (ps_if (PW.pt (pw_or (pt_not (pt_val (pe_at (at_is_fraction T) (hr.mono (by decide)) (by rfl) (pa_cons (pv 2) pa_nil)))) (pw_or (pt_val (pe_at (at_below T) (hr.mono (by decide)) (by rfl) (pa_cons (pv 2) (pa_cons (pe_glob (v := .ref aN) (by rfl) g_NOUGHT_streams rfl) pa_nil)))) (pw_or1 (pt_val (pe_at (at_below T) (hr.mono (by decide)) (by rfl) (pa_cons (pv 3) (pa_cons (pv 2) pa_nil)))))))) (pss_one (ps_ret pe_bl)) pss_nil)))
 (pss_one (ps_ret pe_bl)))), ?_⟩
  walk_at "nk"
  obtain ⟨v1, v2, rfl, h1, h2⟩ := oall2 ha
  obtain ⟨qq, a⟩ := a
  have hp : a.Ok qq := hp
  have h1 : Im K H v1 (.tuple (a.fs.map fun g => frD (red g qq))) := h1
  have h2 : Im K H v2 (.tuple (a.xs.map frD)) := h2
  have lx := hp.lx
  have lc := hp.lc
  have n0 : ∀ {σ : L2.St} {H1 : Hp}, Ev (tC (.ref aN)) σ H1 (oI K (frD (0, 1))) := fun {σ H1} => ev_c (P := oI K (frD (0, 1))) (Im.tup (hN H1) (.cons (Im.int _) (.one (Im.int _))))
  refine q_skip (evb_or (a := false) (evb_not (a := true) (evb_B (ev_isi (ev_varI (i := 0) rfl h1) kit_tt))) fun _ => evb_is (evb_test (ev_neI (ev_lenT (ev_varI (i := 0) rfl h1)) (ev_lenT (ev_varI (i := 1) rfl h2)))) ?_) fun H1 s1 => ?_
  · rw [List.length_map, List.length_map, lx, decide_eq_true rfl]
    rfl
  refine q_for (evi_zip2 (eva_cons (ev_varI (i := 0) rfl (Im.same s1 h1)) (eva_cons (ev_varI (i := 1) rfl (Im.same s1 h2)) eva_nil)) (by rw [List.length_map, List.length_map, lx])) fun H2 s2 => ?_
  refine ⟨fun i σ' H' => ∃ x2 x3, σ' = [some v1, some v2, x2, x3] ∧ Same H H' ∧ TupKeep H2 H', ⟨none, none, rfl, s1.trans s2, TupKeep.refl _⟩, fun i σ' H' ⟨_, _, _, _, k⟩ => k, ?_, ?_⟩
  · rintro i d y σ' H' H'' hd ⟨x2, x3, rfl, sH, tk⟩ smm hy
    obtain ⟨d1, d2, e1, e2, rfl⟩ := pairD_get hd
    obtain ⟨f, hf, rfl, _⟩ := get_map e1
    obtain ⟨x, hx, rfl, _⟩ := get_map e2
    have hc : a.cs[i]? = some (a.cs[i]'(by have := (List.getElem?_eq_some_iff.mp hf).1; omega)) := List.getElem?_eq_getElem _
    generalize a.cs[i]'(by have := (List.getElem?_eq_some_iff.mp hf).1; omega) = c at hc
    obtain ⟨fx, f0, f1, f2⟩ := hp.ok i f x c hf hx hc
    have ff := red_fw hp.q0 (g := f) ⟨f0, by omega⟩
    refine g_names2 hy fun u2 u3 k2 k3 => ?_
    refine s_when (b := false) (evb_or (a := false) (evb_not (a := true) (evb_B (ev_is_fraction (ev_varI (i := 2) rfl k2) ff.v.can))) fun _ => evb_or (a := false) (evb_is (evb_B (ev_belowF (ev_varI (i := 2) rfl k2) n0 hp.q0 hp.qb ff nought_fw)) (decide_eq_false (by omega))) fun _ =>
      evb_is (evb_B (ev_belowF (ev_varI (i := 3) rfl k3) (ev_varI (i := 2) rfl k2) hp.q0 hp.qb fx ff)) (decide_eq_false (by omega))) (fun e => nomatch e) fun _ H3 s3 => ?_
    exact ⟨_, _, rfl, (sH.trans smm).trans s3, tk.trans (tk_same (smm.trans s3))⟩
  · rintro σ' H' ⟨x2, x3, rfl, sH, tk⟩
    exact s_ret (ev_bl (K := K)) fun v H3 s3 p3 => q v H3 (sH.trans s3) p3
theorem ev_are_parts {σ : L2.St} {H : Hp} {ta tb : TE} (q : Int) (a : PartA) (h : Ev ta σ H (oI K (partsD q a.fs))) (k : Ev tb σ H (oI K (frsD a.xs))) (hp : a.Ok q) : Ev (tCall (sp_are_parts K) [] E0 (tCons ta (tCons tb tNil))) σ H (oI K (.bool true)) := ev_call (q, a) (eva_cons h (eva_cons k eva_nil)) hp
/-- a web, a price, a greatest stream -/
structure Wls where
  W : Web
  L : Fr
  s : StrA
structure Wls.Ok (a : Wls) : Prop where
  hw : WebOk a.W
  hl : PrOk a.W a.L
  m : MF a.W a.L a.s
theorem nums_inv {ds : List PyData} {i : Nat} {y : PyData} (h : (numD ds)[i]? = some y) : ∃ d, ds[i]? = some d ∧ y = .tuple [.int (i : Nat), d] := enumD_inv h
theorem fr_eqv (x : Fr) : PyData.eqv (frD x) (frD x) = true := SeqAt.eqv_refl _ (by simp [PyData.canLay0, PyData.canLayAll0])
theorem fr_shaped (x : Fr) : SeqAt.shaped (frD x) = true := by
  simp [SeqAt.shaped, PyData.canLay0, PyData.canLayAll0, PyData.depth, PyData.depthAll]
def sp_is_kept (K : PySem.W.Frag) : Sp := spD (α := Wls) (fun a => [oI K (webD a.W), oI K (streamD a.L.2 a.s)]) Wls.Ok fun _ => oI K (.bool true)
theorem parts_at {q : Int} {fs : List Int} {i : Nat} {f : Int} (h : fs[i]? = some f) : atI (fs.map fun g => frD (red g q)) (i : Int) = some (frD (red f q)) := atI_nat (by rw [List.getElem?_map, h]; rfl)
theorem at_is_kept (T : Tx K mg) : At P w K mg base 4 "is_kept" ["web", "stream"] (sp_is_kept K) := by
  refine at_of T.d_is_kept sc_is_kept (fun _ => rfl) fun f cdv A outer s H vs Q E a hr hp ha q => ?_
  refine ⟨_, (pss_cons (ps_for PassesOwn.never rfl (show PI _ _ _ (iEnumT K _) from pi_enumT (by rfl) T.m_enumerate (pa_cons (pe_at (at_names_of T) (hr.mono (by decide)) (by rfl) (pa_cons (pv 0) pa_nil)) pa_nil)) (show PG _ _ (gTup K 2 _) from pg_tup rfl (pgs_cons (pg_name (i := 2) sc_is_kept.nd rfl (Or.inl rfl)) (pgs_cons (pg_name (i := 3) sc_is_kept.nd rfl (Or.inl rfl)) pgs_nil))) (pss_cons (ps_set (i := 4) sc_is_kept.nd rfl (Or.inl rfl) (pe_ix (r := rIxT K) ix_tup (pe_ix (r := rIxT K) ix_tup (pv 1) pe_int (fun _ _ => rfl)) (pv 2) (fun _ _ => rfl)))
 (pss_cons (ps_set (i := 5) sc_is_kept.nd rfl (Or.inl rfl) (pe_ix (r := rIxT K) ix_tup (pe_ix (r := rIxT K) ix_tup (pv 1) pe_int (fun _ _ => rfl)) (pv 2) (fun _ _ => rfl)))
 (pss_cons (ps_for PassesOwn.never rfl (show PI _ _ _ (RZ.iZipA K _) from RZ.pi_zipA (by rfl) T.m_zip (pa_cons (pe_ix (r := rIxT K) ix_tup (pv 0) pe_int (fun _ _ => rfl)) (pa_cons (pe_ix (r := rIxT K) ix_tup (pv 1) pe_int (fun _ _ => rfl)) pa_nil))) (show PG _ _ (gTup K 2 _) from pg_tup rfl (pgs_cons (pg_name (i := 6) sc_is_kept.nd rfl (Or.inl rfl)) (pgs_cons (pg_name (i := 7) sc_is_kept.nd rfl (Or.inl rfl)) pgs_nil))) (pss_cons (ps_if (pt_cmpR op_eq (pe_ix (r := rIxT K) ix_tup (pv 6) pe_int (fun _ _ => rfl)) (pv 3) (nomark _)) (pss_one (ps_set (i := 4) sc_is_kept.nd rfl (Or.inl rfl) (pe_at (at_plus T) (hr.mono (by decide)) (by rfl) (pa_cons (pv 4) (pa_cons (pv 7) pa_nil))))) pss_nil)
 (pss_one (ps_if (pt_cmpR op_eq (pe_ix (r := rIxT K) ix_tup (pv 6) pe_int (fun _ _ => rfl)) (pv 3) (nomark _)) (pss_one (ps_set (i := 5) sc_is_kept.nd rfl (Or.inl rfl) (pe_at (at_plus T) (hr.mono (by decide)) (by rfl) (pa_cons (pv 5) (pa_cons (pv 7) pa_nil))))) pss_nil))))
 (pss_one (ps_if (pt_cmpR (r := rNeD K) (op_neD hr.units) (pv 4) (pv 5) (nomark _)) (pss_one (ps_ret pe_bl)) pss_nil))))))
 (pss_one (ps_ret pe_bl))), ?_⟩
  walk_at "nk"
  obtain ⟨v1, v2, rfl, h1, h2⟩ := oall2 ha
  have hw := hp.hw
  have hl := hp.hl
  obtain ⟨S1, S2, S3⟩ := mf_small hw hl hp.m
  obtain ⟨val, mf⟩ := hp.m
  have li := mf.li
  have lt := mf.lt
  have lo := mf.lo
  have hq := hl.pos
  have h1 : Im K H v1 (webD a.W) := h1
  have h2 : Im K H v2 (streamD a.L.2 a.s) := h2
  have w0 : ∀ {σ : L2.St} {H9 : Hp}, σ[0]? = some (some v1) → TupKeep H H9 → Ev (tOp (rIxT K) (tVar 0) (tC (.int 2))) σ H9 (oI K (.tuple (a.W.ties.map tieD))) := fun e s =>
    ev_ixT (i := 2) (ds := [.int a.W.top, .tuple (a.W.places.map placeD), .tuple (a.W.ties.map tieD)]) (ev_varI e (Im.keep s h1)) ev_int rfl
  have w1 : ∀ {σ : L2.St} {H9 : Hp}, σ[1]? = some (some v2) → TupKeep H H9 → Ev (tVar 1) σ H9 (oI K (streamD a.L.2 a.s)) := fun e s => ev_varI e (Im.keep s h2)
  refine q_for (evi_enumT (ev_names_of (K := K) (W := a.W) (ev_varI (i := 0) rfl h1) hw)) fun H2 s2 => ?_
  refine ⟨fun i σ' H' => ∃ x2 x3 x4 x5 x6 x7, σ' = [some v1, some v2, x2, x3, x4, x5, x6, x7] ∧ Same H H' ∧ TupKeep H2 H', ⟨_, _, _, _, _, _, rfl, s2, TupKeep.refl _⟩, fun i σ' H' ⟨_, _, _, _, _, _, _, _, k⟩ => k, ?_, ?_⟩
  · rintro i d y σ' H' H'' hd ⟨x2, x3, x4, x5, x6, x7, rfl, sH, tk⟩ smm hy
    obtain ⟨d0, hd0, rfl⟩ := nums_inv hd
    obtain ⟨nm, hnm, rfl, _⟩ := get_map hd0
    unfold Web.names at hnm
    obtain ⟨z, hz, rfl, hzm⟩ := get_map hnm
    have ip := (List.getElem?_eq_some_iff.mp hz).1
    have gf : a.s.fi[i]? = some (a.s.fi[i]'(by omega)) := List.getElem?_eq_getElem _
    have gg : a.s.fo[i]? = some (a.s.fo[i]'(by omega)) := List.getElem?_eq_getElem _
    generalize a.s.fi[i]'(by omega) = f at gf
    generalize a.s.fo[i]'(by omega) = g at gg
    have kp := flow_kept hw.nm mf hz gf gg
    refine g_names2 hy fun u2 u3 k2 k3 => ?_
    obtain rfl := Im.int_inv k2
    obtain rfl := Im.str_inv k3
    have sH2 := sH.trans smm
    refine q_set (ev_ixT (K := K) (d := frD (red f a.L.2)) (ev_ixT (i := 0) (d := partsD a.L.2 a.s.fi) (w1 rfl (tk_same sH2)) ev_int rfl) (ev_varI (i := 2) rfl (Im.int _)) (parts_at gf)) fun u4 H3 s3 p4 => ?_
    refine q_set (ev_ixT (K := K) (d := frD (red g a.L.2)) (ev_ixT (i := 2) (d := partsD a.L.2 a.s.fo) (w1 rfl (tk_same (sH2.trans s3))) ev_int rfl) (ev_varI (i := 2) rfl (Im.int _)) (parts_at gg)) fun u5 H4 s4 p5 => ?_
    have sH4 := (sH2.trans s3).trans s4
    have zl : (a.W.ties.zip a.s.ft).length = a.W.ties.length := by rw [List.length_zip]; omega
    refine q_for (evi_zip2 (eva_cons (w0 rfl (tk_same sH4)) (eva_cons (ev_ixT (i := 1) (d := partsD a.L.2 a.s.ft) (w1 rfl (tk_same sH4)) ev_int rfl) eva_nil)) (by rw [List.length_map, List.length_map]; omega)) fun H5 s5 => ?_
    have inn : ∀ {x : Tie × Int}, x ∈ a.W.ties.zip a.s.ft → 0 ≤ x.2 ∧ x.2 ≤ 100000000000000000 := fun {x} hx => S2.bd x.2 (List.of_mem_zip (a := x.1) (b := x.2) hx).2
    let cin : Tie × Int → Int := fun w => if w.1.y = z.n then w.2 else 0
    let cout : Tie × Int → Int := fun w => if w.1.x = z.n then w.2 else 0
    let Pv : Nat → L2.St → Hp → Prop := fun j σ' H' => ∃ x y u4 u5 x6 x7, σ' = [some v1, some v2, some (.int (i : Nat)), some (.str z.n), some u4, some u5, x6, x7] ∧ Same H H' ∧ TupKeep H5 H' ∧ Im K H' u4 (frD x) ∧ Im K H' u5 (frD y) ∧
        Fv x (f + sm cin ((a.W.ties.zip a.s.ft).take j)) a.L.2 ∧ Fv y (g + sm cout ((a.W.ties.zip a.s.ft).take j)) a.L.2
    refine ⟨Pv,
      ⟨_, _, u4, u5, _, _, rfl, sH4.trans s5, TupKeep.refl _, Im.same (s4.trans s5) p4, Im.same s5 p5, ?_, ?_⟩, fun j σ' H' ⟨_, _, _, _, _, _, _, _, k, _⟩ => k, ?_, ?_⟩
    · rw [List.take_zero, sm_nil, Int.add_zero]
      exact red_fv hq
    · rw [List.take_zero, sm_nil, Int.add_zero]
      exact red_fv hq
    · rintro j d y σ' H' H'' hd ⟨x, y', u4, u5, x6, x7, rfl, sH5, tk5, i4, i5, fx, fy⟩ smm hy
      obtain ⟨d1, d2, e1, e2, rfl⟩ := pairD_get hd
      obtain ⟨t, ht, rfl, htm⟩ := get_map (f := tieD) e1
      obtain ⟨h, hh, rfl, hhm⟩ := get_map e2
      have hz2 : (a.W.ties.zip a.s.ft)[j]? = some (t, h) := List.getElem?_zip_eq_some.mpr ⟨ht, hh⟩
      have hb := S2.bd h hhm
      have fh := red_fw hq (g := h) ⟨hb.1, by omega⟩
      have bd : ∀ {c : Tie × Int → Int} {b x : _}, (∀ w, c w = w.2 ∨ c w = 0) → (0 ≤ b ∧ b ≤ 100000000000000000) → Fv x (b + sm c ((a.W.ties.zip a.s.ft).take j)) a.L.2 → Bf 1000 x := fun {c b x} hc hb fx => by
        have le : ∀ l : List (Tie × Int), (∀ w ∈ l, 0 ≤ w.2 ∧ w.2 ≤ 100000000000000000) → 0 ≤ sm c l ∧ sm c l ≤ 100000000000000000 * l.length := fun l hl => by
          induction l with
          | nil => exact ⟨Int.le_refl _, Int.le_refl _⟩
          | cons w l ih =>
            have q1 := ih fun w hw => hl w (List.mem_cons_of_mem _ hw)
            have q2 := hl w List.mem_cons_self
            rw [sm_cons, List.length_cons]
            rcases hc w with q | q <;> rw [q] <;> omega
        have q1 := le ((a.W.ties.zip a.s.ft).take j) fun w hw => inn (List.mem_of_mem_take hw)
        have q2 : ((a.W.ties.zip a.s.ft).take j).length ≤ 16 := by rw [List.length_take, zl]; have := hw.nt; omega
        have b1 : Bt 600 (b + sm c ((a.W.ties.zip a.s.ft).take j)) := by
          have : Bt 100 (b + sm c ((a.W.ties.zip a.s.ft).take j)) := by
            unfold Bt
            have e : (2 : Nat) ^ 100 = 1267650600228229401496703205376 := by decide
            rw [e]
            omega
          exact this.mono (by decide)
        obtain ⟨t1, t2⟩ := fv_top hq fx
        exact ⟨(b1.of t1).mono (by decide), (hl.bt2.of t2).mono (by decide)⟩
      have bx := bd (c := cin) (b := f) (fun w => by show (if w.1.y = z.n then w.2 else 0) = w.2 ∨ (if w.1.y = z.n then w.2 else 0) = 0; split <;> simp) (S1.bd f (List.mem_of_getElem? gf)) fx
      have by' := bd (c := cout) (b := g) (fun w => by show (if w.1.x = z.n then w.2 else 0) = w.2 ∨ (if w.1.x = z.n then w.2 else 0) = 0; split <;> simp) (S3.bd g (List.mem_of_getElem? gg)) fy
      refine g_names2 hy fun u6 u7 k6 k7 => ?_
      have nameEq : ∀ {σ : L2.St} {H9 : Hp} {i : Int} {s : Str}, σ[6]? = some (some u6) → σ[3]? = some (some (.str z.n)) → Same H'' H9 → atI [PyData.str t.x, PyData.str t.y, PyData.int t.s] i = some (PyData.str s) → Ev (tOp rEq (tOp (rIxT K) (tVar 6) (tC (.int i))) (tVar 3)) σ H9 (oI K (.bool (decide (s = z.n)))) := fun e1 e2 s e3 =>
        ev_eqS (ev_ixT (ev_varI e1 (Im.same s k6)) ev_int e3) (ev_varI e2 (Im.str _))
      -- the second half
      have half : ∀ {D : Ends} {x2 : Fr} {w4 : V} {H9 : Hp}, D.nx = Pv (j + 1) → Same H'' H9 → Im K H9 w4 (frD x2) → Fv x2 (f + sm cin ((a.W.ties.zip a.s.ft).take (j + 1))) a.L.2 →
          tIfS (tTest (tOp rEq (tOp (rIxT K) (tVar 6) (tC (.int 0))) (tVar 3))) (tAsg (tCall (sp_plus K) [] E0 (tCons (tVar 5) (tCons (tVar 7) tNil))) (gName 5)) tNext D [some v1, some v2, some (.int (i : Nat)), some (.str z.n), some w4, some u5, some u6, some u7] H9 := fun {D x2 w4 H9} hD s9 i4 fx2 => by
        refine s_when (evb_test (nameEq (i := 0) rfl rfl s9 rfl)) (fun hb H10 s10 => ?_) fun hb H10 s10 => ?_
        · have hb := of_decide_eq_true hb
          refine s_set (ev_plus (K := K) (x := y') (y := red h a.L.2) (ev_varI (i := 5) rfl (Im.same (s9.trans (s10)) (Im.same smm i5))) (ev_varI (i := 7) rfl (Im.same (s9.trans s10) k7)) by' (fh.bf hq hl.bt2) fy.can.1 fh.pos) fun u H11 s11 p11 => ?_
          rw [hD]
          refine ⟨x2, _, w4, u, _, _, rfl, (((sH5.trans smm).trans s9).trans s10).trans s11, tk5.trans (tk_same (((smm.trans s9).trans s10).trans s11)), Im.same (s10.trans s11) i4, p11, fx2, ?_⟩
          rw [sm_take hz2]
          have e : cout (t, h) = h := if_pos hb
          rw [e, ← Int.add_assoc]
          exact fv_add hq fy fh.v
        · have hb := of_decide_eq_false hb
          rw [hD]
          refine ⟨x2, y', w4, u5, _, _, rfl, ((sH5.trans smm).trans s9).trans s10, tk5.trans (tk_same ((smm.trans s9).trans s10)), Im.same s10 i4, Im.same ((smm.trans s9).trans s10) i5, fx2, ?_⟩
          rw [sm_take hz2]
          have e : cout (t, h) = 0 := if_neg hb
          rw [e, Int.add_zero]
          exact fy
      refine q_when (evb_test (nameEq (i := 1) rfl rfl (Same.refl _) rfl)) (fun hb H10 s10 => ?_) fun hb H10 s10 => ?_
      · have hb := of_decide_eq_true hb
        refine s_set (ev_plus (K := K) (x := x) (y := red h a.L.2) (ev_varI (i := 4) rfl (Im.same s10 (Im.same smm i4))) (ev_varI (i := 7) rfl (Im.same s10 k7)) bx (fh.bf hq hl.bt2) fx.can.1 fh.pos) fun u H11 s11 p11 => ?_
        refine half rfl (s10.trans s11) p11 ?_
        rw [sm_take hz2]
        have e : cin (t, h) = h := if_pos hb
        rw [e, ← Int.add_assoc]
        exact fv_add hq fx fh.v
      · have hb := of_decide_eq_false hb
        refine half rfl s10 (Im.same (smm.trans s10) i4) ?_
        rw [sm_take hz2]
        have e : cin (t, h) = 0 := if_neg hb
        rw [e, Int.add_zero]
        exact fx
    · rintro σ' H' ⟨x, y', u4, u5, x6, x7, rfl, sH5, tk5, i4, i5, fx, fy⟩
      have zl2 : (pairD (a.W.ties.map tieD) (a.s.ft.map fun g => frD (red g a.L.2))).length = (a.W.ties.zip a.s.ft).length := by
        unfold pairD
        rw [List.length_map, List.length_zip, List.length_zip, List.length_map, List.length_map]
      rw [zl2, List.take_length] at fx fy
      have kp : f + sm cin (a.W.ties.zip a.s.ft) = g + sm cout (a.W.ties.zip a.s.ft) := kp
      rw [kp] at fx
      obtain rfl := fv_uniq hq fx fy
      refine s_when (b := false) (evb_is (evb_test (ev_neD (K := K) (ev_varI (i := 4) rfl i4) (ev_varI (i := 5) rfl i5) (fr_shaped x) (fr_shaped x))) (by rw [fr_eqv]; rfl)) (fun e => nomatch e) fun _ H6 s6 => ?_
      exact ⟨_, _, _, _, _, _, rfl, sH5.trans s6, ((tk.trans (tk_same smm)).trans (tk_same ((s3.trans s4).trans s5))).trans (tk5.trans (tk_same s6))⟩
  · rintro σ' H' ⟨x2, x3, x4, x5, x6, x7, rfl, sH, tk⟩
    exact s_ret (ev_bl (K := K)) fun v H3 s3 p3 => q v H3 (sH.trans s3) p3
theorem ev_is_kept {σ : L2.St} {H : Hp} {ta tb : TE} (a : Wls) (h : Ev ta σ H (oI K (webD a.W))) (k : Ev tb σ H (oI K (streamD a.L.2 a.s))) (hp : a.Ok) : Ev (tCall (sp_is_kept K) [] E0 (tCons ta (tCons tb tNil))) σ H (oI K (.bool true)) := ev_call a (eva_cons h (eva_cons k eva_nil)) hp
theorem parts_in {α : Type} {q : Int} {l : List α} {fs : List Int} {x : α → Fr} {c : α → Int} (hs : Small q fs) (hl : fs.length = l.length) (h : ∀ a ∈ l, Fw q (x a) (c a) ∧ c a ≤ 100000000000000000) (k : ∀ a f, (a, f) ∈ l.zip fs → f ≤ c a) : PartA.Ok q ⟨fs, l.map x, l.map c⟩ := by
  refine ⟨hs.q0, hs.qb, hs.len, by show (l.map x).length = fs.length; rw [List.length_map]; exact hl.symm, by show (l.map c).length = fs.length; rw [List.length_map]; exact hl.symm, fun i f y d hf hy hd => ?_⟩
  obtain ⟨a, ha, rfl, hm⟩ := get_map hy
  have hd : (l.map c)[i]? = some d := hd
  rw [List.getElem?_map, ha] at hd
  obtain rfl : c a = d := Option.some.inj hd
  obtain ⟨h1, h2⟩ := h a hm
  have hb := hs.bd f (List.mem_of_getElem? hf)
  have := k a f (List.mem_of_getElem? (List.getElem?_zip_eq_some (z := (a, f)).mpr ⟨ha, hf⟩))
  exact ⟨h1, hb.1, this, by omega⟩
def Wls.parts (a : Wls) : List PartA := [⟨a.s.fi, a.W.places.map (intoF a.L), a.W.places.map (ic a.L.1 a.L.2)⟩, ⟨a.s.ft, a.W.ties.map thruF, a.W.ties.map (tc a.L.2)⟩, ⟨a.s.fo, a.W.places.map (outF a.L), a.W.places.map (oc a.L.1 a.L.2)⟩]
theorem Wls.Ok.all {a : Wls} (h : a.Ok) : ∀ p ∈ a.parts, p.Ok a.L.2 := by
  obtain ⟨S1, S2, S3⟩ := mf_small h.hw h.hl h.m
  obtain ⟨val, m⟩ := h.m
  intro p hp
  unfold Wls.parts at hp
  rw [List.mem_cons, List.mem_cons, List.mem_singleton] at hp
  rcases hp with rfl | rfl | rfl
  · exact parts_in S1 m.li (fun z hz => ⟨into_fw h.hw h.hl hz, (ic_bd h.hw h.hl hz).2⟩) fun z f hz => (m.caps ⟨spring, z.n, ic a.L.1 a.L.2 z, f⟩ (List.mem_append_left _ (List.mem_map.mpr ⟨(z, f), hz, rfl⟩))).2
  · exact parts_in S2 m.lt (fun z hz => ⟨thru_fw h.hw h.hl hz, (tc_bd h.hw h.hl hz).2⟩) fun z f hz => (m.caps ⟨z.x, z.y, tc a.L.2 z, f⟩ (List.mem_append_right _ (List.mem_append_left _ (List.mem_map.mpr ⟨(z, f), hz, rfl⟩)))).2
  · exact parts_in S3 m.lo (fun z hz => ⟨out_fw h.hw h.hl hz, (oc_bd h.hw h.hl hz).2⟩) fun z f hz => (m.caps ⟨z.n, drain, oc a.L.1 a.L.2 z, f⟩ (List.mem_append_right _ (List.mem_append_right _ (List.mem_map.mpr ⟨(z, f), hz, rfl⟩)))).2
def sp_is_stream (K : PySem.W.Frag) : Sp := spD (α := Wls) (fun a => [oI K (webD a.W), oI K (frD a.L), oI K (streamD a.L.2 a.s)]) Wls.Ok fun _ => oI K (.bool true)
theorem at_is_stream (T : Tx K mg) : At P w K mg base 6 "is_stream" ["web", "price", "thing"] (sp_is_stream K) := by
  refine at_of T.d_is_stream sc_is_stream (fun _ => rfl) fun f cdv A outer s H vs Q E a hr hp ha q => ?_
  refine ⟨_, (pss_cons (ps_set (i := 3) sc_is_stream.nd rfl (Or.inl rfl) (pe_at (at_sizes_at T) (hr.mono (by decide)) (by rfl) (pa_cons (pv 0) (pa_cons (pv 1) pa_nil))))
 (pss_cons (ps_if (PW.pt (pw_or (pt_not (pt_val (pe_callB (r := rIsi K) call_isi (by rfl) T.m_isinstance (by decide +kernel) (pa_cons (pv 2) (pa_cons (pe_bltn (v := .ty "tuple") (by rfl) T.m_tuple (by decide +kernel) rfl) pa_nil))))) (pw_or1 (pt_cmpR op_ne (pe_callB (r := rLenS K) cr_lenS (by rfl) T.m_len (by decide +kernel) (pa_cons (pv 2) pa_nil)) pe_int (nomark _))))) (pss_one (ps_ret pe_bl)) pss_nil)
 (pss_cons (ps_if (pt_not (pt_val (pe_callB (r := rAll K) (cr_all rfl) (by rfl) T.m_all (by decide +kernel) (pa_cons (pe_lc rfl sc_is_stream.nd (show PI _ _ _ (RZ.iZipA K _) from RZ.pi_zipA (by rfl) T.m_zip (pa_cons (pv 2) (pa_cons (pv 3) pa_nil))) (blkOk_by (N := N_is_stream) (sc := defScope s_is_stream) (own := [("part", 4), ("size", 5)]) (by decide +kernel)) (fun _ _ _ _ _ => (show PG _ _ (gTup K 2 _) from pg_tup rfl (pgs_cons (pg_name (i := 4) sc_is_stream.nd rfl (Or.inl rfl)) (pgs_cons (pg_name (i := 5) sc_is_stream.nd rfl (Or.inl rfl)) pgs_nil)))) (fun _ _ _ _ _ => pts_nil) (fun _ _ _ _ _ => (pe_at (at_are_parts T) (hr.mono (by decide)) (by rfl) (pa_cons (pv 4) (pa_cons (pv 5) pa_nil))))) pa_nil)))) (pss_one (ps_ret pe_bl)) pss_nil)
 (pss_one (ps_ret (pe_at (at_is_kept T) (hr.mono (by decide)) (by rfl) (pa_cons (pv 0) (pa_cons (pv 2) pa_nil)))))))), ?_⟩
  walk_at "nk"
  obtain ⟨v1, v2, v3, rfl, h1, h2, h3⟩ := oall3 ha
  have h3 : Im K H v3 (streamD a.L.2 a.s) := h3
  refine q_set (ev_sizes_at (ev_varI (i := 0) rfl h1) (ev_varI (i := 1) rfl h2) hp.hw hp.hl) fun u H1 s1 p1 => ?_
  have p1 : Im K H1 u (sizesD a.W a.L) := p1
  have h3' := Im.same s1 h3
  refine q_skip (evb_or (a := false) (evb_not (a := true) (evb_B (ev_isi (ev_varI (i := 2) rfl h3') kit_tt))) fun _ => evb_is (evb_test (ev_neI (ev_lenT (ev_varI (i := 2) rfl h3')) ev_int)) rfl) fun H2 s2 => ?_
  have h3'' := Im.same s2 h3'
  have p1' := Im.same s2 p1
  refine q_skip (evb_not (a := true) (evb_B (ev_isD (ev_all (K := K) (bs := [true, true, true]) (Ev.ls (ev_lcmA a.parts (fun p => .tuple [partsD a.L.2 p.fs, frsD p.xs]) (fun _ => .bool true) (evi_zip2 (eva_cons (ev_varI (i := 2) rfl h3'') (eva_cons (ev_varI (i := 3) rfl p1') eva_nil)) rfl) (show 3 ≤ 40000 by decide)
    (fun p x H3 hpm s3 p3 => g_names2 p3 fun u4 u5 k4 k5 => ⟨rfl, Same.refl _, ev_are_parts a.L.2 p (ev_varI (i := 4) rfl k4) (ev_varI (i := 5) rfl k5) (hp.all p hpm)⟩) (gm_tup (gm_cons gm_name (gm_cons gm_name gm_nil))) rfl))) rfl))) fun H3 s3 => ?_
  have s03 := (s1.trans s2).trans s3
  exact s_ret (ev_is_kept a (ev_varI (i := 0) rfl (Im.same s03 h1)) (ev_varI (i := 2) rfl (Im.same s03 h3)) hp) fun v H4 s4 p4 => q v H4 (s03.trans s4) p4
theorem ev_is_stream {σ : L2.St} {H : Hp} {ta tb tc : TE} (a : Wls) (h : Ev ta σ H (oI K (webD a.W))) (l : Ev tb σ H (oI K (frD a.L))) (k : Ev tc σ H (oI K (streamD a.L.2 a.s))) (hp : a.Ok) : Ev (tCall (sp_is_stream K) [] E0 (tCons ta (tCons tb (tCons tc tNil)))) σ H (oI K (.bool true)) := ev_call a (eva_cons h (eva_cons l (eva_cons k eva_nil))) hp
def sp_check_stream (K : PySem.W.Frag) : Sp := spD (α := Wls) (fun a => [oI K (webD a.W), oI K (frD a.L), oI K (streamD a.L.2 a.s)]) Wls.Ok fun _ => oI K .none
theorem at_check_stream (T : Tx K mg) : At P w K mg base 7 "check_stream" ["web", "price", "thing"] (sp_check_stream K) := by
  refine at_of T.d_check_stream sc_check_stream (fun _ => rfl) fun f cdv A outer s H vs Q E a hr hp ha q => ?_
  refine ⟨_, (pss_cons (ps_if (pt_not (pt_val (pe_at (at_is_price T) (hr.mono (by decide)) (by rfl) (pa_cons (pv 0) (pa_cons (pv 1) pa_nil))))) (pss_one ps_never) pss_nil)
 (pss_one (ps_if (pt_not (pt_val (pe_at (at_is_stream T) (hr.mono (by decide)) (by rfl) (pa_cons (pv 0) (pa_cons (pv 1) (pa_cons (pv 2) pa_nil)))))) (pss_one ps_never) pss_nil))), ?_⟩
  walk_at "nk"
  obtain ⟨v1, v2, v3, rfl, h1, h2, h3⟩ := oall3 ha
  refine q_skip (evb_not (a := true) (evb_B (ev_is_price (ev_varI (i := 0) rfl h1) (ev_varI (i := 1) rfl h2) hp.hw hp.hl))) fun H1 s1 => ?_
  exact s_when (b := false) (evb_not (a := true) (evb_B (ev_is_stream a (ev_varI (i := 0) rfl (Im.same s1 h1)) (ev_varI (i := 1) rfl (Im.same s1 h2)) (ev_varI (i := 2) rfl (Im.same s1 h3)) hp))) (fun e => nomatch e) fun _ H2 s2 => q _ H2 (s1.trans s2) Im.non
theorem ev_check_stream {σ : L2.St} {H : Hp} {ta tb tc : TE} (a : Wls) (h : Ev ta σ H (oI K (webD a.W))) (l : Ev tb σ H (oI K (frD a.L))) (k : Ev tc σ H (oI K (streamD a.L.2 a.s))) (hp : a.Ok) : Ev (tCall (sp_check_stream K) [] E0 (tCons ta (tCons tb (tCons tc tNil)))) σ H (oI K .none) := ev_call a (eva_cons h (eva_cons l (eva_cons k eva_nil))) hp
end
end Cut
end
section
namespace Cut
open PySem PySem.Spec PyProof.Rows L2
local macro_rules | `(tactic| walk_at "nk") => `(tactic| first | dsimp only [cxOf, Cx.nox, Cx.wish, Cx.blk] | skip)
local macro_rules | `(tactic| walk_at "im") => `(tactic| first
  | assumption
  | exact Im.int _ | exact Im.str _ | exact Im.bl _ | exact Im.non
  | (refine Im.same (by assumption) ?_; walk_at "im"))
local macro_rules | `(tactic| walk_at "side") => `(tactic| first | assumption | rfl | omega)
local macro_rules | `(tactic| walk_at "ev") => `(tactic| first
  | (with_reducible exact ev_int) | (with_reducible exact ev_str) | (with_reducible exact ev_bl) | (with_reducible exact ev_non)
  | ((with_reducible apply ev_varI); rfl; walk_at "im")
  | ((with_reducible apply ev_ixT); walk_at "ev"; walk_at "ev"; walk_at "side")
  | ((with_reducible apply ev_add); walk_at "ev"; walk_at "ev")
  | ((with_reducible apply ev_sub); walk_at "ev"; walk_at "ev")
  | ((with_reducible apply ev_mul); walk_at "ev"; walk_at "ev"; walk_at "side")
  | ((with_reducible apply ev_div); walk_at "ev"; walk_at "ev"; walk_at "side")
  | ((with_reducible apply ev_mod); walk_at "ev"; walk_at "ev"; walk_at "side")
  | ((with_reducible apply ev_eqI); walk_at "ev"; walk_at "ev")
  | ((with_reducible apply ev_neI); walk_at "ev"; walk_at "ev")
  | ((with_reducible apply ev_eqS); walk_at "ev"; walk_at "ev")
  | ((with_reducible apply ev_neS); walk_at "ev"; walk_at "ev")
  | ((with_reducible apply ev_cmp); walk_at "ev"; walk_at "ev")
  | ((with_reducible apply ev_tup1); walk_at "ev")
  | ((with_reducible apply ev_tup2); walk_at "ev"; walk_at "ev")
  | ((with_reducible apply ev_tup3); walk_at "ev"; walk_at "ev"; walk_at "ev")
  | ((with_reducible apply ev_tup4); walk_at "ev"; walk_at "ev"; walk_at "ev"; walk_at "ev")
  | ((with_reducible apply ev_tup5); walk_at "ev"; walk_at "ev"; walk_at "ev"; walk_at "ev"; walk_at "ev")
  | ((with_reducible apply ev_lenT); walk_at "ev")
  | ((with_reducible apply ev_abs); walk_at "ev")
  | ((with_reducible apply ev_tupleL); walk_at "ev")
  | ((with_reducible apply ev_notV); walk_at "ev")
  | assumption)

/-! who is led to -/
theorem ris_pw {l : List Str} : sortedS l = true → l.Pairwise fun x y => ltS y x = false := by
  have key : ∀ (l : List Str) (p : Str), risingS p l = true → (∀ x ∈ l, ltS x p = false) ∧ l.Pairwise fun x y => ltS y x = false := by
    intro l
    induction l with
    | nil => exact fun p _ => ⟨fun x h => absurd h (by simp), .nil⟩
    | cons a l ih =>
      intro p h
      have h : (!ltCps a.cps.toList p.cps.toList && risingS a l) = true := h
      rw [Bool.and_eq_true, Bool.not_eq_true'] at h
      have h1 : ltS a p = false := h.1
      obtain ⟨q1, q2⟩ := ih a h.2
      refine ⟨fun x hx => ?_, List.pairwise_cons.mpr ⟨fun x hx => q1 x hx, q2⟩⟩
      rcases List.mem_cons.mp hx with rfl | hx
      · exact h1
      · exact Sto.neg sto_str h1 (q1 x hx)
  intro h
  cases l with
  | nil => exact .nil
  | cons a l =>
    obtain ⟨q1, q2⟩ := key l a h
    exact List.pairwise_cons.mpr ⟨fun x hx => q1 x hx, q2⟩
/-- each once, where it first stands -/
def uniq (xs : List Str) : List Str := xs.foldl (fun bs x => addNew bs x) []
theorem fold_pre : ∀ (l bs : List Str), ∃ r, l.foldl (fun bs x => addNew bs x) bs = bs ++ r
  | [], bs => ⟨[], by simp⟩
  | x :: l, bs => by
    obtain ⟨r, h⟩ := fold_pre l (addNew bs x)
    rw [List.foldl_cons, h]
    unfold addNew
    split
    · exact ⟨r, rfl⟩
    · exact ⟨x :: r, by rw [List.append_assoc]; rfl⟩
theorem mem_uniq {xs : List Str} {x : Str} : x ∈ uniq xs ↔ x ∈ xs := by
  unfold uniq
  rw [fold_new (fun x : Str => x)]
  simp
theorem uniq_nodup (xs : List Str) : (uniq xs).Nodup := fold_nodup (fun x : Str => x) _ _ (by simp)
theorem uniq_id : ∀ (l bs : List Str), (bs ++ l).Nodup → l.foldl (fun bs x => addNew bs x) bs = bs ++ l
  | [], bs, _ => by simp
  | x :: l, bs, h => by
    have nx : x ∉ bs := fun q => by
      have := (List.nodup_append.mp h).2.2 x q x List.mem_cons_self
      exact this rfl
    have e : addNew bs x = bs ++ [x] := by unfold addNew; rw [if_neg nx]
    rw [List.foldl_cons, e, uniq_id l (bs ++ [x]) (by rw [List.append_assoc]; exact h), List.append_assoc]
    rfl
theorem uniq_pre {xs ys : List Str} (h : xs.Nodup) : ∃ r, uniq (xs ++ ys) = xs ++ r := by
  unfold uniq
  rw [List.foldl_append, uniq_id xs [] (by simpa using h)]
  exact fold_pre ys xs
theorem uniq_take {xs : List Str} {i : Nat} {x : Str} (h : xs[i]? = some x) : uniq (xs.take (i + 1)) = addNew (uniq (xs.take i)) x := by
  unfold uniq
  rw [List.take_add_one, h, List.foldl_append]
  rfl
theorem uniq_len (xs : List Str) : (uniq xs).length ≤ xs.length := nodup_len _ _ (uniq_nodup xs) fun x h => mem_uniq.mp h
def seenK (ks : List Str) : List (Key × V) := ks.map fun x => (.inr x, .bl true)
theorem put_seen (ks : List Str) (x : Str) : putK (seenK ks) (.inr x) (.bl true) = seenK (addNew ks x) := by
  have e : ∀ ks : List Str, ((seenK ks).any fun kv => decide (kv.1 = .inr x)) = decide (x ∈ ks) := fun ks => by
    induction ks with
    | nil => simp [seenK]
    | cons k ks ih =>
      have ih : ((seenK ks).any fun kv => decide (kv.1 = .inr x)) = decide (x ∈ ks) := ih
      show (decide ((.inr k : Key) = .inr x) || (seenK ks).any fun kv => decide (kv.1 = .inr x)) = _
      rw [ih]
      by_cases q : k = x
      · simp [q]
      · have q2 : ¬ x = k := fun z => q z.symm
        simp [q, q2]
  unfold putK addNew
  rw [e]
  by_cases h : x ∈ ks
  · rw [if_pos (decide_eq_true h), if_pos h]
    unfold seenK
    rw [List.map_map]
    refine List.map_congr_left fun k _ => ?_
    show (if (.inr k : Key) = .inr x then ((.inr k : Key), V.bl true) else (.inr k, .bl true)) = _
    split <;> rfl
  · rw [if_neg (by rw [decide_eq_false h]; decide), if_neg h]
    unfold seenK
    rw [List.map_append]
    rfl
/-- promises of what is new -/
def spB {α : Type} (Ps : α → List Ob) (pre : α → Prop) (R : α → Hp → Ob) : Sp := fun vs H Q _ => ∃ a, pre a ∧ OAll (Ps a) vs H ∧ ∀ v H', Same H H' → (R a H).p v H' → Q v H'
section
variable {P : Program} {w : World} {K : PySem.W.Frag} {mg : Str → Option Value} {base : Heap}
theorem at_ofB {α : Type} {x : Str} {st : Stmt} {N ps : List Str} {k : Nat} {Ps : α → List Ob} {pre : α → Prop} {R : α → Hp → Ob} (F : Def K mg x st ps) (S : FnScope N ps (defScope st)) (len : ∀ a, (Ps a).length = ps.length)
    (body : ∀ (f : Addr) (cdv : Value) (A : Around) (outer : List Env) (s : Shared) (H : Hp) (vs : List V) (Q : VK) (E : XK) (a : α), Room k (A.deeper (envOfC x (defScope st) s.heap.objs.size f cdv)) → pre a → OAll (Ps a) vs H → (∀ v H', Same H H' → (R a H).p v H' → Q v H') →
      ∃ t, PSs (cxOf CX0 P w K mg base N x (defScope st) f cdv A outer s H E).nox (defBody st) t ∧ t { nx := fun _ H' => Q .non H', rt := Q } (start N vs) H) : At P w K mg base (k + 1) x ps (spB Ps pre R) := by
  obtain ⟨f, fd, h1, h2, h3⟩ := F.ex
  refine ⟨f, fd, ?_, h2, h1.kp, h3⟩
  refine h1.ok S (fun vs H Q E h => ?_) fun cdv A outer s H vs Q E hr h => ?_
  · obtain ⟨a, _, z, _⟩ := h
    rw [z.length, len]
  · obtain ⟨a, z1, z2, z3⟩ := h
    exact body f cdv A outer s H vs Q E a hr z1 z2 z3
theorem ev_callN {σ : L2.St} {H : Hp} {ta : TA} {α : Type} {Ps : α → List Ob} {pre : α → Prop} {ds : α → List PyData} (a : α) (h : EvA ta σ H (Ps a)) (hp : pre a) : Ev (tCall (spB Ps pre fun a B => oN K B (ds a)) [] E0 ta) σ H (oN K H (ds a)) := fun H1 s Q q =>
  h H1 s _ fun vs H2 s2 p2 => ⟨a, hp, by rw [List.append_nil]; exact p2, fun v H3 s3 ⟨l, xs, e, n, z⟩ => q v H3 (s2.trans s3) ⟨l, xs, e, (s.trans s2).free n, z⟩⟩
def sp_unlike_ones (K : PySem.W.Frag) : Sp := spB (α := List Str) (fun a => [oL K (a.map .str)]) (fun a => a.length ≤ 1000) fun a B => oN K B ((uniq a).map .str)
theorem at_unlike_ones (T : Tx K mg) : At P w K mg base 1 "unlike_ones" ["names"] (sp_unlike_ones K) := by
  refine at_ofB T.d_unlike_ones sc_unlike_ones (fun _ => rfl) fun f cdv A outer s H vs Q E a hr hp ha q => ?_
  refine ⟨_, (pss_cons (ps_set (i := 1) sc_unlike_ones.nd rfl (Or.inl rfl) pe_dnewK)
 (pss_cons (ps_for PassesOwn.never rfl (show PI _ _ _ (iList K _) from pi_list (pv 0)) (pg_name (i := 2) sc_unlike_ones.nd rfl (Or.inl rfl)) (pss_one (ps_dput (hu_of hr) (pv 1) (pv 2) pe_bl rfl)))
 (pss_one (ps_ret (pe_callTy (call_list_dK rfl) (by rfl) T.m_list (by decide +kernel) (pa_cons (pv 1) pa_nil)))))), ?_⟩
  walk_at "nk"
  obtain ⟨v1, rfl, h1⟩ := oall1 ha
  have hp : a.length ≤ 1000 := hp
  obtain ⟨la, xs, rfl, ea, ia⟩ := h1
  obtain rfl := ia.strs
  refine q_dnewK fun d H1 s1 n1 e1 => ?_
  refine q_forA (evi_listA (K := K) (ev_varV (i := 0) rfl) (s1 _ _ ea) (ImAll.of_strs a)) fun H2 s2 => ?_
  refine ⟨fun i σ' H' => ∃ x2, σ' = [some (.ref la), some (.ref d), x2] ∧ Same H H' ∧ TupKeep H2 H' ∧ H' d = some (.dK (seenK (uniq (a.take i)))), ⟨none, rfl, s1.trans s2, TupKeep.refl _, s2 _ _ e1⟩,
    fun i σ' H' ⟨_, _, k1, k2, _⟩ => ⟨k2, k1 _ _ ea⟩, ?_, ?_⟩
  · rintro i dd y σ' H' H'' hd ⟨x2, rfl, sH, tk, ed⟩ smm hy
    obtain ⟨x, hx, rfl, _⟩ := get_map hd
    refine s_dput (K := K) (x := x) (P := oV (.bl true)) (kvs := seenK (uniq (a.take i))) ?_ (smm _ _ ed) (ev_c rfl) (ev_varV (i := 1) rfl) (ev_varI (i := 2) rfl hy) fun u H3 s3 p3 => ?_
    · unfold seenK
      rw [List.length_map]
      have h1 := uniq_len (a.take i)
      have h2 : (a.take i).length ≤ a.length := by rw [List.length_take]; omega
      omega
    · obtain rfl : u = .bl true := p3
      have ed3 := s3 _ _ (smm _ _ ed)
      refine ⟨_, rfl, same_mut ((sH.trans smm).trans s3) n1, (tk.trans (tk_same (smm.trans s3))).trans (tk_upd ed3 trivial), ?_⟩
      rw [upd_same, put_seen, uniq_take hx]
  · rintro σ' H' ⟨x2, rfl, sH, tk, ed⟩
    rw [List.length_map, List.take_length] at ed
    refine s_ret (P := oN K H' ((uniq a).map .str)) (ev_cb (eva_cons (ev_varV (i := 1) rfl) eva_nil) fun vs H3 s3 p3 Q3 q3 => ?_) fun v H3 s3 p3 => ?_
    · obtain ⟨u, rfl, pu⟩ := oall1 p3
      obtain rfl : u = .ref d := pu
      refine ⟨d, _, rfl, s3 _ _ ed, fun l hl => q3 _ _ (same_new hl) ⟨l, _, rfl, s3.free hl, upd_same, ?_⟩⟩
      unfold seenK
      rw [List.map_map]
      exact ImAll.of_strs (uniq a)
    · obtain ⟨l, xs, e, n, z⟩ := p3
      exact q v H3 (sH.trans s3) ⟨l, xs, e, sH.free n, z⟩
theorem ev_unlike_ones {σ : L2.St} {H : Hp} {ta : TE} {a : List Str} (h : Ev ta σ H (oL K (a.map .str))) (hp : a.length ≤ 1000) : Ev (tCall (sp_unlike_ones K) [] E0 (tCons ta tNil)) σ H (oN K H ((uniq a).map .str)) := ev_callN (ds := fun a => (uniq a).map .str) a (eva_cons h eva_nil) hp
/-! reached -/
abbrev wayD (p : Str × Str) : PyData := .tuple [.str p.1, .str p.2]
structure RbA where
  st : List Str
  ways : List (Str × Str)
  dom : List Str
structure RbA.Ok (a : RbA) : Prop where
  nd : a.st.Nodup
  sub : ∀ x ∈ a.st, x ∈ a.dom
  end_ : ∀ p ∈ a.ways, p.2 ∈ a.dom
  ld : a.dom.length ≤ 8
  lw : a.ways.length ≤ 40
def strsD (l : List Str) : PyData := .tuple (l.map .str)
def CloR (ways : List (Str × Str)) (st ss : List Str) : Prop := IsClo ways st ss ∧ Ris ltS ss
def sp_reached_by (K : PySem.W.Frag) : Sp := spD (α := RbA) (fun a => [oL K (a.st.map .str), oL K (a.ways.map wayD)]) RbA.Ok fun a => oE (CloR a.ways a.st) fun ss => oI K (strsD ss)
theorem at_reached_by (T : Tx K mg) : At P w K mg base 2 "reached_by" ["starts", "ways"] (sp_reached_by K) := by
  refine at_of T.d_reached_by sc_reached_by (fun _ => rfl) fun f cdv A outer s H vs Q E a hr hp ha q => ?_
  refine ⟨_, (pss_cons (ps_set (i := 2) sc_reached_by.nd rfl (Or.inr rfl) (pe_callTy (r := rListOf K) cr_listOf (by rfl) T.m_list (by decide +kernel) (pa_cons (pv 0) pa_nil)))
 (pss_cons (ps_set (i := 3) sc_reached_by.nd rfl (Or.inr rfl) pe_int)
 (pss_cons (ps_while PassesOwn.never (pt_cmpR op_lt (pv 3) (pe_callB (r := rLenS K) cr_lenS (by rfl) T.m_len (by decide +kernel) (pa_cons (pv 2) pa_nil)) (nomark _)) (pss_cons (ps_expr (pe_bm PySem.F.plainAttrs_list PySem.F.slot_list_extend PySem.F.type_list_extend mt_extend (pv 2) (pa_cons (pe_lc rfl sc_reached_by.nd (show PI _ _ _ (iList K _) from pi_list (pv 1)) (blkOk_by (N := N_reached_by) (sc := defScope s_reached_by) (own := [("one", 4), ("other", 5)]) (by decide +kernel)) (fun _ _ _ _ _ => (show PG _ _ (gTup K 2 _) from pg_tup rfl (pgs_cons (pg_name (i := 4) sc_reached_by.nd rfl (Or.inl rfl)) (pgs_cons (pg_name (i := 5) sc_reached_by.nd rfl (Or.inl rfl)) pgs_nil)))) (fun _ _ _ _ _ => (pts_one (PW.pt (pw_and (pt_cmpR op_eq (pv 4) (pe_ix (r := rIxL K) ix_list (pv 2) (pv 3) (fun _ _ => rfl)) (nomark _)) (pw_and1 (pt_cmpR (r := rIn K true) op_notIn_seq (pv 5) (pv 2) (by rfl))))))) (fun _ _ _ _ _ => (pv 5))) pa_nil)))
 (pss_cons (ps_set (i := 2) sc_reached_by.nd rfl (Or.inr rfl) (pe_at (at_unlike_ones T) (hr.mono (by decide)) (by rfl) (pa_cons (pv 2) pa_nil)))
 (pss_one (ps_set (i := 3) sc_reached_by.nd rfl (Or.inr rfl) (pe_op op_add (pv 3) pe_int))))))
 (pss_one (ps_ret (pe_callTy (r := rTupleOf K) cr_tupleOf (by rfl) T.m_tuple (by decide +kernel) (pa_cons (pe_callB (r := rSortedS K) cr_sortedS (by rfl) T.m_sorted (by decide +kernel) (pa_cons (pv 2) pa_nil)) pa_nil))))))), ?_⟩
  walk_at "nk"
  obtain ⟨v1, v2, rfl, h1, h2⟩ := oall2 ha
  have h1 : LsAt K H v1 (a.st.map .str) := h1
  have h2 : LsAt K H v2 (a.ways.map wayD) := h2
  have ld := hp.ld
  have lw := hp.lw
  refine q_set (ev_listQ (K := K) (ev_varLs (i := 0) rfl h1).qL) fun vf H1 s1 p1 => ?_
  obtain ⟨lf0, xs0, rfl, nf0, ef0, if0⟩ := p1
  obtain rfl := if0.strs
  refine q_set (ev_int (K := K)) fun va H2 s2 p2 => ?_
  obtain rfl := Im.int_inv p2
  refine q_while (fun m σ' H' => ∃ at' fs lf x4 x5, σ' = [some v1, some v2, some (.ref lf), some (.int (at' : Nat)), x4, x5] ∧ Same H H' ∧ H lf = none ∧ H' lf = some (.lst (fs.map V.str)) ∧ fs.Nodup ∧ (∀ x ∈ fs, x ∈ a.dom) ∧ (∀ x ∈ a.st, x ∈ fs) ∧ at' ≤ fs.length ∧ m + at' = 9 ∧
      (∀ (i : Nat) (x : Str), i < at' → fs[i]? = some x → ∀ p ∈ a.ways, p.1 = x → p.2 ∈ fs) ∧ ∀ S : Str → Bool, ClosedU a.ways S → (∀ x ∈ a.st, S x = true) → ∀ x ∈ fs, S x = true) 9
    ⟨0, a.st, lf0, none, none, rfl, s1.trans s2, nf0, s2 _ _ ef0, hp.nd, hp.sub, fun x h => h, Nat.zero_le _, rfl, fun i x hi => absurd hi (by omega), fun S _ h => h⟩ ?_
  rintro m σ' H' ⟨at', fs, lf, x4, x5, rfl, sH, nf, ef, nd, sub, hst, hat, hm, hcl, hle⟩
  have l8 : fs.length ≤ 8 := Nat.le_trans (nodup_len fs a.dom nd sub) ld
  refine ⟨_, evb_test (ev_cmp (ev_varI (i := 3) rfl (Im.int _)) (ev_lenL (ds := fs.map .str) (ev_varL (i := 2) rfl ef (ImAll.of_strs fs)))), fun hlt H4 s4 => ?_, fun hge H4 s4 => ?_⟩
  · have hlt : at' < fs.length := by
      have := of_decide_eq_true hlt
      rw [List.length_map] at this
      omega
    have hx : fs[at']? = some fs[at'] := List.getElem?_eq_getElem hlt
    generalize fs[at'] = x at hx
    have ef4 := s4 _ _ ef
    have ix : atI (fs.map PyData.str) (at' : Int) = some (.str x) := atI_nat (by rw [List.getElem?_map, hx]; rfl)
    let nw : List Str := (a.ways.filter fun p => decide (p.1 = x) && !decide (p.2 ∈ fs)).map (·.2)
    have lnw : nw.length ≤ 40 := by
      show ((a.ways.filter _).map _).length ≤ 40
      rw [List.length_map]
      exact Nat.le_trans (List.length_filter_le _ _) lw
    refine q_ext (K := K) (ds := nw.map .str) ef4 (ev_varV (i := 2) rfl) (Ev.ls (ev_lcmL a.ways wayD (fun p => decide (p.1 = x) && !decide (p.2 ∈ fs)) (fun p => .str p.2) (evi_list (ev_varLs (i := 1) rfl (h2.same (sH.trans s4)))) (by omega)
      (fun p v H5 hpm s5 p5 => g_names2 p5 fun u4 u5 k4 k5 => ⟨rfl, Same.refl _, ?_, fun _ => ev_varI (i := 5) rfl k5⟩) (gm_tup (gm_cons gm_name (gm_cons gm_name gm_nil))) (by rw [List.map_map]; rfl))) (by rw [List.length_map, List.length_map]; omega) fun ys H5 s5 i5 => ?_
    · have ef5 := s5 _ _ ef4
      exact evb_and (evb_test (ev_eqS (ev_varI (i := 4) rfl k4) (ev_ixL (ev_varL (i := 2) rfl ef5 (ImAll.of_strs fs)) (ev_varI (i := 3) rfl (Im.int _)) ix))) fun _ =>
        evb_test (ev_inS (K := K) (neg := true) (xs := fs) (ev_varI (i := 5) rfl k5) (ev_varL (i := 2) rfl ef5 (ImAll.of_strs fs)).qL)
    obtain rfl := i5.strs
    rw [← List.map_append]
    refine q_set (ev_unlike_ones (K := K) (a := fs ++ nw) (ev_varL (i := 2) rfl upd_same (ImAll.of_strs _)) (by rw [List.length_append]; omega)) fun vf2 H6 s6 p6 => ?_
    obtain ⟨lf2, xs2, rfl, nf2, ef2, if2⟩ := p6
    obtain rfl := if2.strs
    have sH5 : Same H (upd H5 lf (.lst ((fs ++ nw).map V.str))) := same_mut ((sH.trans s4).trans s5) nf
    refine s_set (ev_add (K := K) (ev_varI (i := 3) rfl (Im.int _)) ev_int) fun u H7 s7 p7 => ?_
    obtain rfl := Im.int_inv p7
    obtain ⟨r, hr'⟩ := uniq_pre (xs := fs) (ys := nw) nd
    have sub2 : ∀ y ∈ uniq (fs ++ nw), y ∈ a.dom := fun y hy => by
      rcases List.mem_append.mp (mem_uniq.mp hy) with z | z
      · exact sub y z
      · obtain ⟨p, hpm, rfl⟩ := List.mem_map.mp z
        exact hp.end_ p (List.mem_filter.mp hpm).1
    have newin : ∀ p ∈ a.ways, p.1 = x → p.2 ∈ uniq (fs ++ nw) := fun p hpm e => by
      refine mem_uniq.mpr (List.mem_append.mpr ?_)
      by_cases z : p.2 ∈ fs
      · exact .inl z
      · exact .inr (List.mem_map.mpr ⟨p, List.mem_filter.mpr ⟨hpm, by rw [decide_eq_true e, decide_eq_false z]; rfl⟩, rfl⟩)
    refine ⟨m - 1, by omega, at' + 1, uniq (fs ++ nw), lf2, x4, x5, rfl, (sH5.trans s6).trans s7, sH5.free nf2, s7 _ _ ef2, uniq_nodup _, sub2, fun y hy => mem_uniq.mpr (List.mem_append_left _ (hst y hy)), by rw [hr', List.length_append]; omega, by omega, fun i y hi hy p hpm e => ?_, fun S hS hs y hy => ?_⟩
    · rw [hr'] at hy
      rw [List.getElem?_append_left (by omega)] at hy
      rcases Nat.lt_or_ge i at' with z | z
      · exact mem_uniq.mpr (List.mem_append_left _ (hcl i y z hy p hpm e))
      · obtain rfl : i = at' := by omega
        rw [hx] at hy
        obtain rfl := Option.some.inj hy
        exact newin p hpm e
    · rcases List.mem_append.mp (mem_uniq.mp hy) with z | z
      · exact hle S hS hs y z
      · obtain ⟨p, hpm, rfl⟩ := List.mem_map.mp z
        obtain ⟨h3, h4⟩ := List.mem_filter.mp hpm
        rw [Bool.and_eq_true] at h4
        refine hS p h3 ?_
        rw [of_decide_eq_true h4.1]
        exact hle S hS hs x (List.mem_of_getElem? hx)
  · have hge : fs.length ≤ at' := by
      have := of_decide_eq_false hge
      rw [List.length_map] at this
      omega
    have cl : IsClo a.ways a.st fs := ⟨hst, fun p hpm hin => by
      obtain ⟨i, hi, e⟩ := List.mem_iff_getElem.mp hin
      exact hcl i p.1 (by omega) (by rw [List.getElem?_eq_getElem hi, e]) p hpm rfl, hle⟩
    refine s_ret (P := oE (CloR a.ways a.st) fun ss => oI K (strsD ss)) (ev_cb (P := oE (CloR a.ways a.st) fun ss => oI K (strsD ss)) (eva_cons (ev_sortS (K := K) (ss := fs) (ev_varL (i := 2) rfl (s4 _ _ ef) (ImAll.of_strs fs)) (by omega)) eva_nil) fun vs H5 s5 p5 Q5 q5 => ?_) fun v H5 s5 p5 => q v H5 ((sH.trans s4).trans s5) p5
    obtain ⟨u, rfl, ss, ⟨pm, srt⟩, l, xs, rfl, nl, el, il⟩ := oall1 p5
    refine ⟨l, xs, rfl, .inl ⟨SqL.of el, fun t ht => q5 _ _ (same_new ht) ⟨ss, ⟨⟨fun y hy => pm.mem_iff.mpr (cl.has y hy), fun p hpm hin => pm.mem_iff.mpr (cl.clo p hpm (pm.mem_iff.mp hin)), fun S hS hs y hy => cl.least S hS hs y (pm.mem_iff.mp hy)⟩, ris_of sto_str (ris_pw srt) (pm.nodup_iff.mpr nd)⟩, ?_⟩⟩⟩
    exact Im.tup (SqT.of upd_same) (il.same (same_new ht))
theorem ev_reached_by {σ : L2.St} {H : Hp} {ta tb : TE} (a : RbA) (h : Ev ta σ H (oL K (a.st.map .str))) (k : Ev tb σ H (oL K (a.ways.map wayD))) (hp : a.Ok) : Ev (tCall (sp_reached_by K) [] E0 (tCons ta (tCons tb tNil))) σ H (oE (CloR a.ways a.st) fun ss => oI K (strsD ss)) := ev_call a (eva_cons h (eva_cons k eva_nil)) hp
/-! ways between -/
def sp_ways_between (K : PySem.W.Frag) : Sp := spD (α := Wls) (fun a => [oI K (webD a.W), oI K (sizesD a.W a.L), oI K (streamD a.L.2 a.s)]) Wls.Ok fun a => oL K ((waysOf a.L.2 a.W a.s.ft).map wayD)
theorem tripD_get {ds es fs : List PyData} {i : Nat} {d : PyData} (h : (tripD ds es fs)[i]? = some d) : ∃ a b c, ds[i]? = some a ∧ es[i]? = some b ∧ fs[i]? = some c ∧ d = .tuple [a, b, c] := by
  unfold tripD at h
  rw [List.getElem?_map] at h
  cases e : (ds.zip (es.zip fs))[i]? with
  | none => rw [e] at h; cases h
  | some z =>
    rw [e] at h
    obtain ⟨h1, h2⟩ := List.getElem?_zip_eq_some.mp e
    obtain ⟨h2, h3⟩ := List.getElem?_zip_eq_some.mp h2
    exact ⟨z.1, z.2.1, z.2.2, h1, h2, h3, (Option.some.inj h).symm⟩
theorem flat_take {α β : Type} {f : α → List β} {l : List α} {i : Nat} {a : α} (h : l[i]? = some a) : (l.take (i + 1)).flatMap f = (l.take i).flatMap f ++ f a := by
  rw [List.take_add_one, h, List.flatMap_append]
  simp
theorem ways_len {q : Int} (W : Web) (ft : List Int) : (waysOf q W ft).length ≤ 2 * W.ties.length := by
  unfold waysOf
  have key : ∀ l : List (Tie × Int), (l.flatMap (way1 q)).length ≤ 2 * l.length := fun l => by
    induction l with
    | nil => exact Nat.zero_le _
    | cons z l ih =>
      rw [List.flatMap_cons, List.length_append, List.length_cons]
      have : (way1 q z).length ≤ 2 := by
        unfold way1
        rw [List.length_append]
        split <;> split <;> simp
      omega
  refine Nat.le_trans (key _) ?_
  rw [List.length_zip]
  omega
theorem at_ways_between (T : Tx K mg) : At P w K mg base 2 "ways_between" ["web", "sizes", "stream"] (sp_ways_between K) := by
  refine at_of T.d_ways_between sc_ways_between (fun _ => rfl) fun f cdv A outer s H vs Q E a hr hp ha q => ?_
  obtain ⟨aN, g_NOUGHT_streams, hN⟩ := T.c_NOUGHT_streams
  refine ⟨_, (pss_cons (ps_set (i := 3) sc_ways_between.nd rfl (Or.inl rfl) (pe_lst pa_nil))
 (pss_cons (ps_for PassesOwn.never rfl (show PI _ _ _ (iZip3 K _) from pi_zip3 (by rfl) T.m_zip (pa_cons (pe_ix (r := rIxT K) ix_tup (pv 0) pe_int (fun _ _ => rfl)) (pa_cons (pe_ix (r := rIxT K) ix_tup (pv 1) pe_int (fun _ _ => rfl)) (pa_cons (pe_ix (r := rIxT K) ix_tup (pv 2) pe_int (fun _ _ => rfl)) pa_nil)))) (show PG _ _ (gTup K 3 _) from pg_tup rfl (pgs_cons (pg_name (i := 4) sc_ways_between.nd rfl (Or.inl rfl)) (pgs_cons (pg_name (i := 5) sc_ways_between.nd rfl (Or.inl rfl)) (pgs_cons (pg_name (i := 6) sc_ways_between.nd rfl (Or.inl rfl)) pgs_nil)))) (pss_cons (ps_if (pt_val (pe_at (at_below T) (hr.mono (by decide)) (by rfl) (pa_cons (pv 6) (pa_cons (pv 5) pa_nil)))) (pss_one (ps_expr (pe_bm PySem.F.plainAttrs_list PySem.F.slot_list_append PySem.F.type_list_append mt_append (pv 3) (pa_cons (pe_tup (pa_cons (pe_ix (r := rIxT K) ix_tup (pv 4) pe_int (fun _ _ => rfl)) (pa_cons (pe_ix (r := rIxT K) ix_tup (pv 4) pe_int (fun _ _ => rfl)) pa_nil))) pa_nil)))) pss_nil)
 (pss_one (ps_if (pt_val (pe_at (at_below T) (hr.mono (by decide)) (by rfl) (pa_cons (pe_glob (v := .ref aN) (by rfl) g_NOUGHT_streams rfl) (pa_cons (pv 6) pa_nil)))) (pss_one (ps_expr (pe_bm PySem.F.plainAttrs_list PySem.F.slot_list_append PySem.F.type_list_append mt_append (pv 3) (pa_cons (pe_tup (pa_cons (pe_ix (r := rIxT K) ix_tup (pv 4) pe_int (fun _ _ => rfl)) (pa_cons (pe_ix (r := rIxT K) ix_tup (pv 4) pe_int (fun _ _ => rfl)) pa_nil))) pa_nil)))) pss_nil))))
 (pss_one (ps_ret (pv 3))))), ?_⟩
  walk_at "nk"
  obtain ⟨v1, v2, v3, rfl, h1, h2, h3⟩ := oall3 ha
  have hw := hp.hw
  have hl := hp.hl
  obtain ⟨S1, S2, S3⟩ := mf_small hw hl hp.m
  obtain ⟨val, mf⟩ := hp.m
  have lt := mf.lt
  have nt := hw.nt
  have hq := hl.pos
  have h1 : Im K H v1 (webD a.W) := h1
  have h2 : Im K H v2 (sizesD a.W a.L) := h2
  have h3 : Im K H v3 (streamD a.L.2 a.s) := h3
  have n0 : ∀ {σ : L2.St} {H1 : Hp}, Ev (tC (.ref aN)) σ H1 (oI K (frD (0, 1))) := fun {σ H1} => ev_c (P := oI K (frD (0, 1))) (Im.tup (hN H1) (.cons (Im.int _) (.one (Im.int _))))
  refine q_set (ev_nil (K := K)) fun vf H1 s1 p1 => ?_
  obtain ⟨lf, xs0, rfl, nf, ef, pf⟩ := p1
  cases pf
  refine q_for (evi_zip3 (ds := a.W.ties.map tieD) (es := (a.W.ties.map thruF).map frD) (fs := a.s.ft.map fun g => frD (red g a.L.2)) (eva_cons (ev_ixT (i := 2) (ds := [.int a.W.top, .tuple (a.W.places.map placeD), .tuple (a.W.ties.map tieD)]) (ev_varI (i := 0) rfl (Im.same s1 h1)) ev_int rfl)
    (eva_cons (ev_ixT (i := 1) (d := frsD (a.W.ties.map thruF)) (ev_varI (i := 1) rfl (Im.same s1 h2)) ev_int rfl) (eva_cons (ev_ixT (i := 1) (d := partsD a.L.2 a.s.ft) (ev_varI (i := 2) rfl (Im.same s1 h3)) ev_int rfl) eva_nil))) (by simp) (by simp [lt])) fun H2 s2 => ?_
  let Pv : Nat → L2.St → Hp → Prop := fun i σ' H' => ∃ xs x4 x5 x6, σ' = [some v1, some v2, some v3, some (.ref lf), x4, x5, x6] ∧ Same H H' ∧ TupKeep H2 H' ∧ H' lf = some (.lst xs) ∧ ImAll K H' xs ((((a.W.ties.zip a.s.ft).take i).flatMap (way1 a.L.2)).map wayD)
  refine ⟨Pv, ⟨[], none, none, none, rfl, s1.trans s2, TupKeep.refl _, s2 _ _ ef, .nil⟩, fun i σ' H' ⟨_, _, _, _, _, _, k, _⟩ => k, ?_, ?_⟩
  · rintro i d y σ' H' H'' hd ⟨xs, x4, x5, x6, rfl, sH, tk, ex, ix⟩ smm hy
    obtain ⟨d1, d2, d3, e1, e2, e3, rfl⟩ := tripD_get hd
    obtain ⟨t, ht, rfl, htm⟩ := get_map (f := tieD) e1
    obtain ⟨th, hth, rfl, _⟩ := get_map e2
    obtain ⟨t', ht', rfl, _⟩ := get_map (f := thruF) hth
    obtain rfl : t = t' := Option.some.inj (ht.symm.trans ht')
    obtain ⟨h, hh, rfl, hhm⟩ := get_map e3
    have hz : (a.W.ties.zip a.s.ft)[i]? = some (t, h) := List.getElem?_zip_eq_some.mpr ⟨ht, hh⟩
    have hb := S2.bd h hhm
    have fh := red_fw hq (g := h) ⟨hb.1, by omega⟩
    have ft := thru_fw hw hl htm
    have il : i ≤ 16 := by
      have := (List.getElem?_eq_some_iff.mp ht).1
      omega
    have lx : xs.length ≤ 2 * i := by
      rw [ix.length, List.length_map]
      have key : ∀ l : List (Tie × Int), (l.flatMap (way1 a.L.2)).length ≤ 2 * l.length := fun l => by
        induction l with
        | nil => exact Nat.zero_le _
        | cons z l ih =>
          rw [List.flatMap_cons, List.length_append, List.length_cons]
          have : (way1 a.L.2 z).length ≤ 2 := by
            unfold way1
            rw [List.length_append]
            split <;> split <;> simp
          omega
      refine Nat.le_trans (key _) ?_
      rw [List.length_take]
      omega
    refine g_names3 hy fun u4 u5 u6 k4 k5 k6 => ?_
    have way : ∀ {i j : Int} {x y : Str} {H9 : Hp}, TupKeep H'' H9 → atI [PyData.str t.x, PyData.str t.y, PyData.int t.s] i = some (.str x) → atI [PyData.str t.x, PyData.str t.y, PyData.int t.s] j = some (.str y) →
        Ev (tTup (tCons (tOp (rIxT K) (tVar 4) (tC (.int i))) (tCons (tOp (rIxT K) (tVar 4) (tC (.int j))) tNil))) [some v1, some v2, some v3, some (V.ref lf), some u4, some u5, some u6] H9 (oI K (wayD (x, y))) := fun s e1 e2 =>
      ev_tup2 (ev_ixT (ev_varI (i := 4) rfl (k4.keep s)) ev_int e1) (ev_ixT (ev_varI (i := 4) rfl (k4.keep s)) ev_int e2)
    have half : ∀ {D : Ends} {xs2 : List V} {H9 : Hp}, D.nx = Pv (i + 1) → Same H H9 → TupKeep H'' H9 → H9 lf = some (.lst xs2) → ImAll K H9 xs2 ((((a.W.ties.zip a.s.ft).take i).flatMap (way1 a.L.2) ++ (if h < tc a.L.2 t then [(t.x, t.y)] else [])).map wayD) → xs2.length ≤ 100 →
        tIfS (tB (tCall (sp_below K) [] E0 (tCons (tC (.ref aN)) (tCons (tVar 6) tNil)))) (tDrop (tBM K "list" rAppend (tVar 3) (tCons (tTup (tCons (tOp (rIxT K) (tVar 4) (tC (.int 1))) (tCons (tOp (rIxT K) (tVar 4) (tC (.int 0))) tNil))) tNil))) tNext D [some v1, some v2, some v3, some (V.ref lf), some u4, some u5, some u6] H9 := fun {D xs2 H9} hD s9 t9 e9 i9 l9 => by
      refine s_when (evb_B (ev_belowF (K := K) n0 (ev_varI (i := 6) rfl (k6.keep t9)) hq hl.bt2 nought_fw fh)) (fun hb H10 s10 => ?_) fun hb H10 s10 => ?_
      · have hb := of_decide_eq_true hb
        refine s_app (s10 _ _ e9) (ev_varV (i := 3) rfl) (way (i := 1) (j := 0) (t9.trans (tk_same s10)) rfl rfl) (by omega) fun u H11 s11 p11 => ?_
        have k12 : TupKeep H11 (upd H11 lf (.lst (xs2 ++ [u]))) := tk_upd (s11 _ _ (s10 _ _ e9)) trivial
        rw [hD]
        refine ⟨_, _, _, _, rfl, same_mut ((s9.trans s10).trans s11) (nf), (tk.trans ((tk_same smm).trans t9)).trans ((tk_same (s10.trans s11)).trans k12), upd_same, ?_⟩
        rw [flat_take hz]
        unfold way1
        rw [if_pos (c := (0 : Int) < h) hb, ← List.append_assoc, List.map_append]
        exact ((i9.same (s10.trans s11)).keep k12).snoc (Im.keep k12 p11)
      · have hb := of_decide_eq_false hb
        rw [hD]
        refine ⟨_, _, _, _, rfl, s9.trans s10, (tk.trans ((tk_same smm).trans t9)).trans (tk_same s10), s10 _ _ e9, ?_⟩
        rw [flat_take hz]
        unfold way1
        rw [if_neg (c := (0 : Int) < h) hb, List.append_nil]
        exact i9.same s10
    refine q_when (evb_B (ev_belowF (K := K) (ev_varI (i := 6) rfl k6) (ev_varI (i := 5) rfl k5) hq hl.bt2 fh ft)) (fun hb H10 s10 => ?_) fun hb H10 s10 => ?_
    · have hb := of_decide_eq_true hb
      refine s_app (s10 _ _ (smm _ _ ex)) (ev_varV (i := 3) rfl) (way (i := 0) (j := 1) (tk_same s10) rfl rfl) (by omega) fun u H11 s11 p11 => ?_
      have k12 : TupKeep H11 (upd H11 lf (.lst (xs ++ [u]))) := tk_upd (s11 _ _ (s10 _ _ (smm _ _ ex))) trivial
      refine half rfl (same_mut (((sH.trans smm).trans s10).trans s11) nf) ((tk_same (s10.trans s11)).trans k12) upd_same ?_ (by rw [List.length_append]; show xs.length + 1 ≤ 100; omega)
      rw [if_pos hb, List.map_append]
      exact ((ix.same ((smm.trans s10).trans s11)).keep k12).snoc (Im.keep k12 p11)
    · have hb := of_decide_eq_false hb
      refine half rfl ((sH.trans smm).trans s10) (tk_same s10) (s10 _ _ (smm _ _ ex)) ?_ (by omega)
      rw [if_neg hb, List.append_nil]
      exact ix.same (smm.trans s10)
  · rintro σ' H' ⟨xs, x4, x5, x6, rfl, sH, tk, ex, ix⟩
    have zl : (tripD (a.W.ties.map tieD) ((a.W.ties.map thruF).map frD) (a.s.ft.map fun g => frD (red g a.L.2))).length = (a.W.ties.zip a.s.ft).length := by
      unfold tripD
      rw [List.length_map, List.length_zip, List.length_zip, List.length_zip, List.length_map, List.length_map, List.length_map, List.length_map]
      omega
    rw [zl, List.take_length] at ix
    exact s_ret (ev_varL (K := K) (i := 3) rfl ex ix) fun v H3 s3 p3 => q v H3 (sH.trans s3) p3
theorem ev_ways_between {σ : L2.St} {H : Hp} {ta tb tc : TE} (a : Wls) (h : Ev ta σ H (oI K (webD a.W))) (l : Ev tb σ H (oI K (sizesD a.W a.L))) (k : Ev tc σ H (oI K (streamD a.L.2 a.s))) (hp : a.Ok) : Ev (tCall (sp_ways_between K) [] E0 (tCons ta (tCons tb (tCons tc tNil)))) σ H (oL K ((waysOf a.L.2 a.W a.s.ft).map wayD)) := ev_call a (eva_cons h (eva_cons l (eva_cons k eva_nil))) hp
/-! the starts, by number -/
theorem num_rows {α : Type} (l : List α) (n : α → Str) : numD (l.map fun a => .str (n a)) = l.zipIdx.map fun x => .tuple [.int (x.2 : Nat), .str (n x.1)] := by
  unfold numD
  refine List.ext_getElem? fun i => ?_
  rw [List.getElem?_map, List.getElem?_map, List.getElem?_zipIdx, List.getElem?_zipIdx, List.getElem?_map]
  cases l[i]? <;> rfl
theorem num_filter {α : Type} (l : List α) (f : α → Bool) (g : α → PyData) : (l.zipIdx.filter fun x => f x.1).map (fun x => g x.1) = (l.filter f).map g := by
  have e : l.zipIdx.map Prod.fst = l := by simp
  have h := List.filter_map (f := (Prod.fst : α × Nat → α)) (p := f) (l := l.zipIdx)
  rw [e] at h
  rw [h, List.map_map]
  rfl
theorem names_zip {W : Web} {fs : List Int} (h : fs.length = W.places.length) : W.names.map PyData.str = (W.places.zip fs).map fun z => .str z.1.n := by
  rw [← zip_names h, List.map_map]
  rfl
theorem starts_nodup {W : Web} {p q : Int} {fi : List Int} (ok : NamesOk W) (h : fi.length = W.places.length) : (startsOf p q W fi).Nodup := by
  unfold startsOf
  have nd : ((W.places.zip fi).map fun z => z.1.n).Nodup := by rw [zip_names h]; exact Ris.nodup sto_str ok.ris
  exact List.Nodup.sublist (List.Sublist.map _ (List.filter_sublist)) nd
theorem ends_nodup {W : Web} {p q : Int} {fo : List Int} (ok : NamesOk W) (h : fo.length = W.places.length) : (endsOf p q W fo).Nodup := by
  unfold endsOf
  have nd : ((W.places.zip fo).map fun z => z.1.n).Nodup := by rw [zip_names h]; exact Ris.nodup sto_str ok.ris
  exact List.Nodup.sublist (List.Sublist.map _ (List.filter_sublist)) nd
def Wls.starts (a : Wls) : List Str := startsOf a.L.1 a.L.2 a.W a.s.fi
def Wls.ends (a : Wls) : List Str := endsOf a.L.1 a.L.2 a.W a.s.fo
def Wls.ways (a : Wls) : List (Str × Str) := waysOf a.L.2 a.W a.s.ft
def Wls.back (a : Wls) : List (Str × Str) := a.ways.map fun p => (p.2, p.1)
theorem names_len {W : Web} (hw : WebOk W) : W.names.length ≤ 8 := by
  unfold Web.names
  rw [List.length_map]
  exact hw.np
theorem Wls.Ok.rb1 {a : Wls} (h : a.Ok) : RbA.Ok ⟨a.starts, a.ways, a.W.names⟩ := by
  obtain ⟨val, m⟩ := h.m
  have fo := fam_ok h.hw.nm m
  refine ⟨starts_nodup h.hw.nm m.li, fo.inS, fun p hp => (fo.inW p hp).2, names_len h.hw, ?_⟩
  have := ways_len (q := a.L.2) a.W a.s.ft
  have := h.hw.nt
  show (waysOf a.L.2 a.W a.s.ft).length ≤ 40
  omega
theorem Wls.Ok.rb2 {a : Wls} (h : a.Ok) : RbA.Ok ⟨a.ends, a.back, a.W.names⟩ := by
  obtain ⟨val, m⟩ := h.m
  have fo := fam_ok h.hw.nm m
  refine ⟨ends_nodup h.hw.nm m.lo, fo.inE, fun p hp => ?_, names_len h.hw, ?_⟩
  · obtain ⟨z, hz, rfl⟩ := List.mem_map.mp hp
    exact (fo.inW z hz).1
  · have := ways_len (q := a.L.2) a.W a.s.ft
    have := h.hw.nt
    show (a.ways.map _).length ≤ 40
    rw [List.length_map]
    show (waysOf a.L.2 a.W a.s.ft).length ≤ 40
    omega
def sp_led_to_in (K : PySem.W.Frag) : Sp := spD (α := Wls) (fun a => [oI K (webD a.W), oI K (sizesD a.W a.L), oI K (streamD a.L.2 a.s)]) Wls.Ok fun a => oE (CloR a.ways a.starts) fun ss => oI K (strsD ss)
theorem at_led_to_in (T : Tx K mg) : At P w K mg base 3 "led_to_in" ["web", "sizes", "stream"] (sp_led_to_in K) := by
  refine at_of T.d_led_to_in sc_led_to_in (fun _ => rfl) fun f cdv A outer s H vs Q E a hr hp ha q => ?_
  refine ⟨_, (pss_cons (ps_setLc (i := 3) rfl sc_led_to_in.nd rfl rfl (sw_true rfl rfl rfl (by decide +kernel)) (show PI _ _ _ (iEnumT K _) from pi_enumT (by rfl) T.m_enumerate (pa_cons (pe_at (at_names_of T) (hr.mono (by decide)) (by rfl) (pa_cons (pv 0) pa_nil)) pa_nil)) (blkOk_by (N := N_led_to_in) (sc := defScope s_led_to_in) (own := [("k", 4), ("name", 5)]) (by decide +kernel)) (fun _ _ _ _ _ => (show PG _ _ (gTup K 2 _) from pg_tup rfl (pgs_cons (pg_name (i := 4) sc_led_to_in.nd rfl (Or.inl rfl)) (pgs_cons (pg_name (i := 5) sc_led_to_in.nd rfl (Or.inl rfl)) pgs_nil)))) (fun _ _ _ _ _ => (pts_one (pt_val (pe_at (at_below T) (hr.mono (by decide)) (by rfl) (pa_cons (pe_ix (r := rIxT K) ix_tup (pe_ix (r := rIxT K) ix_tup (pv 2) pe_int (fun _ _ => rfl)) (pv 4) (fun _ _ => rfl)) (pa_cons (pe_ix (r := rIxT K) ix_tup (pe_ix (r := rIxT K) ix_tup (pv 1) pe_int (fun _ _ => rfl)) (pv 4) (fun _ _ => rfl)) pa_nil)))))) (fun _ _ _ _ _ => (pv 5)))
 (pss_one (ps_ret (pe_at (at_reached_by T) (hr.mono (by decide)) (by rfl) (pa_cons (pv 3) (pa_cons (pe_at (at_ways_between T) (hr.mono (by decide)) (by rfl) (pa_cons (pv 0) (pa_cons (pv 1) (pa_cons (pv 2) pa_nil)))) pa_nil)))))), ?_⟩
  walk_at "nk"
  obtain ⟨v1, v2, v3, rfl, h1, h2, h3⟩ := oall3 ha
  have hw := hp.hw
  have hl := hp.hl
  obtain ⟨S1, S2, S3⟩ := mf_small hw hl hp.m
  have ok := hp.rb1
  obtain ⟨val, mf⟩ := hp.m
  have li := mf.li
  have np := hw.np
  have hq := hl.pos
  have h1 : Im K H v1 (webD a.W) := h1
  have h2 : Im K H v2 (sizesD a.W a.L) := h2
  have h3 : Im K H v3 (streamD a.L.2 a.s) := h3
  have e0 : EvI K (iEnumT K (tCons (tCall (sp_names_of K) [] E0 (tCons (tVar 0) tNil)) tNil)) (start N_led_to_in [v1, v2, v3]) H ((a.W.places.zip a.s.fi).zipIdx.map fun x => .tuple [.int (x.2 : Nat), .str x.1.1.n]) := by
    rw [← num_rows (a.W.places.zip a.s.fi) fun z => z.1.n, ← names_zip li]
    exact evi_enumT (ev_names_of (K := K) (W := a.W) (ev_varI (i := 0) rfl h1) hw)
  refine q_set (Ev.ls (ev_lcm (K := K) (es := a.starts.map .str) (a.W.places.zip a.s.fi).zipIdx (fun x => .tuple [.int (x.2 : Nat), .str x.1.1.n]) (fun x => decide (x.1.2 < ic a.L.1 a.L.2 x.1.1)) (fun x => .str x.1.1.n) e0 (by rw [List.length_zipIdx, List.length_zip]; omega)
    (fun x v H1 hx s p => g_names2 p fun u4 u5 k4 k5 => ⟨rfl, Same.refl _, ?_, fun _ => ev_varI (i := 5) rfl k5⟩) (gm_tup (gm_cons gm_name (gm_cons gm_name gm_nil))) ?_)) fun u H1 s1 p1 => ?_
  · have hx := List.mem_zipIdx_iff_getElem?.mp hx
    obtain ⟨hz, hf⟩ := List.getElem?_zip_eq_some.mp hx
    have hb := S1.bd _ (List.mem_of_getElem? hf)
    obtain rfl := Im.int_inv k4
    exact evb_B (ev_belowF (ev_ixT (d := frD (red x.1.2 a.L.2)) (ev_ixT (i := 0) (d := partsD a.L.2 a.s.fi) (ev_varI (i := 2) rfl (Im.same s h3)) ev_int rfl) (ev_varI (i := 4) rfl (Im.int _)) (parts_at hf))
      (ev_ixT (d := frD (intoF a.L x.1.1)) (ev_ixT (i := 0) (d := frsD (a.W.places.map (intoF a.L))) (ev_varI (i := 1) rfl (Im.same s h2)) ev_int rfl) (ev_varI (i := 4) rfl (Im.int _)) (fr_at hz)) hq hl.bt2 (red_fw hq ⟨hb.1, by omega⟩) (into_fw hw hl (List.mem_of_getElem? hz)))
  · rw [num_filter (a.W.places.zip a.s.fi) (fun z => decide (z.2 < ic a.L.1 a.L.2 z.1)) fun z => .str z.1.n]
    unfold Wls.starts startsOf
    rw [List.map_map]
    rfl
  exact s_ret (ev_reached_by ⟨a.starts, a.ways, a.W.names⟩ (ev_varLs (i := 3) rfl p1) (ev_ways_between a (ev_varI (i := 0) rfl (Im.same s1 h1)) (ev_varI (i := 1) rfl (Im.same s1 h2)) (ev_varI (i := 2) rfl (Im.same s1 h3)) hp) ok) fun v H2 s2 p2 => q v H2 (s1.trans s2) p2
theorem ev_led_to_in {σ : L2.St} {H : Hp} {ta tb tc : TE} (a : Wls) (h : Ev ta σ H (oI K (webD a.W))) (l : Ev tb σ H (oI K (sizesD a.W a.L))) (k : Ev tc σ H (oI K (streamD a.L.2 a.s))) (hp : a.Ok) : Ev (tCall (sp_led_to_in K) [] E0 (tCons ta (tCons tb (tCons tc tNil)))) σ H (oE (CloR a.ways a.starts) fun ss => oI K (strsD ss)) := ev_call a (eva_cons h (eva_cons l (eva_cons k eva_nil))) hp
def sp_led_from_in (K : PySem.W.Frag) : Sp := spD (α := Wls) (fun a => [oI K (webD a.W), oI K (sizesD a.W a.L), oI K (streamD a.L.2 a.s)]) Wls.Ok fun a => oE (CloR a.back a.ends) fun ss => oI K (strsD ss)
theorem at_led_from_in (T : Tx K mg) : At P w K mg base 3 "led_from_in" ["web", "sizes", "stream"] (sp_led_from_in K) := by
  refine at_of T.d_led_from_in sc_led_from_in (fun _ => rfl) fun f cdv A outer s H vs Q E a hr hp ha q => ?_
  refine ⟨_, (pss_cons (ps_setLc (i := 3) rfl sc_led_from_in.nd rfl rfl (sw_true rfl rfl rfl (by decide +kernel)) (show PI _ _ _ (iEnumT K _) from pi_enumT (by rfl) T.m_enumerate (pa_cons (pe_at (at_names_of T) (hr.mono (by decide)) (by rfl) (pa_cons (pv 0) pa_nil)) pa_nil)) (blkOk_by (N := N_led_from_in) (sc := defScope s_led_from_in) (own := [("k", 4), ("name", 5)]) (by decide +kernel)) (fun _ _ _ _ _ => (show PG _ _ (gTup K 2 _) from pg_tup rfl (pgs_cons (pg_name (i := 4) sc_led_from_in.nd rfl (Or.inl rfl)) (pgs_cons (pg_name (i := 5) sc_led_from_in.nd rfl (Or.inl rfl)) pgs_nil)))) (fun _ _ _ _ _ => (pts_one (pt_val (pe_at (at_below T) (hr.mono (by decide)) (by rfl) (pa_cons (pe_ix (r := rIxT K) ix_tup (pe_ix (r := rIxT K) ix_tup (pv 2) pe_int (fun _ _ => rfl)) (pv 4) (fun _ _ => rfl)) (pa_cons (pe_ix (r := rIxT K) ix_tup (pe_ix (r := rIxT K) ix_tup (pv 1) pe_int (fun _ _ => rfl)) (pv 4) (fun _ _ => rfl)) pa_nil)))))) (fun _ _ _ _ _ => (pv 5)))
 (pss_one (ps_ret (pe_at (at_reached_by T) (hr.mono (by decide)) (by rfl) (pa_cons (pv 3) (pa_cons (pe_lc rfl sc_led_from_in.nd (show PI _ _ _ (iList K _) from pi_list (pe_at (at_ways_between T) (hr.mono (by decide)) (by rfl) (pa_cons (pv 0) (pa_cons (pv 1) (pa_cons (pv 2) pa_nil))))) (blkOk_by (N := N_led_from_in) (sc := defScope s_led_from_in) (own := [("one", 6), ("other", 7)]) (by decide +kernel)) (fun _ _ _ _ _ => (show PG _ _ (gTup K 2 _) from pg_tup rfl (pgs_cons (pg_name (i := 6) sc_led_from_in.nd rfl (Or.inl rfl)) (pgs_cons (pg_name (i := 7) sc_led_from_in.nd rfl (Or.inl rfl)) pgs_nil)))) (fun _ _ _ _ _ => pts_nil) (fun _ _ _ _ _ => (pe_tup (pa_cons (pv 7) (pa_cons (pv 6) pa_nil))))) pa_nil)))))), ?_⟩
  walk_at "nk"
  obtain ⟨v1, v2, v3, rfl, h1, h2, h3⟩ := oall3 ha
  have hw := hp.hw
  have hl := hp.hl
  obtain ⟨S1, S2, S3⟩ := mf_small hw hl hp.m
  have ok := hp.rb2
  obtain ⟨val, mf⟩ := hp.m
  have lo := mf.lo
  have np := hw.np
  have hq := hl.pos
  have h1 : Im K H v1 (webD a.W) := h1
  have h2 : Im K H v2 (sizesD a.W a.L) := h2
  have h3 : Im K H v3 (streamD a.L.2 a.s) := h3
  have e0 : EvI K (iEnumT K (tCons (tCall (sp_names_of K) [] E0 (tCons (tVar 0) tNil)) tNil)) (start N_led_from_in [v1, v2, v3]) H ((a.W.places.zip a.s.fo).zipIdx.map fun x => .tuple [.int (x.2 : Nat), .str x.1.1.n]) := by
    rw [← num_rows (a.W.places.zip a.s.fo) fun z => z.1.n, ← names_zip lo]
    exact evi_enumT (ev_names_of (K := K) (W := a.W) (ev_varI (i := 0) rfl h1) hw)
  refine q_set (Ev.ls (ev_lcm (K := K) (es := a.ends.map .str) (a.W.places.zip a.s.fo).zipIdx (fun x => .tuple [.int (x.2 : Nat), .str x.1.1.n]) (fun x => decide (x.1.2 < oc a.L.1 a.L.2 x.1.1)) (fun x => .str x.1.1.n) e0 (by rw [List.length_zipIdx, List.length_zip]; omega)
    (fun x v H1 hx s p => g_names2 p fun u4 u5 k4 k5 => ⟨rfl, Same.refl _, ?_, fun _ => ev_varI (i := 5) rfl k5⟩) (gm_tup (gm_cons gm_name (gm_cons gm_name gm_nil))) ?_)) fun u H1 s1 p1 => ?_
  · have hx := List.mem_zipIdx_iff_getElem?.mp hx
    obtain ⟨hz, hf⟩ := List.getElem?_zip_eq_some.mp hx
    have hb := S3.bd _ (List.mem_of_getElem? hf)
    obtain rfl := Im.int_inv k4
    exact evb_B (ev_belowF (ev_ixT (d := frD (red x.1.2 a.L.2)) (ev_ixT (i := 2) (d := partsD a.L.2 a.s.fo) (ev_varI (i := 2) rfl (Im.same s h3)) ev_int rfl) (ev_varI (i := 4) rfl (Im.int _)) (parts_at hf))
      (ev_ixT (d := frD (outF a.L x.1.1)) (ev_ixT (i := 2) (d := frsD (a.W.places.map (outF a.L))) (ev_varI (i := 1) rfl (Im.same s h2)) ev_int rfl) (ev_varI (i := 4) rfl (Im.int _)) (fr_at hz)) hq hl.bt2 (red_fw hq ⟨hb.1, by omega⟩) (out_fw hw hl (List.mem_of_getElem? hz)))
  · rw [num_filter (a.W.places.zip a.s.fo) (fun z => decide (z.2 < oc a.L.1 a.L.2 z.1)) fun z => .str z.1.n]
    unfold Wls.ends endsOf
    rw [List.map_map]
    rfl
  have lw := hp.rb1.lw
  exact s_ret (ev_reached_by ⟨a.ends, a.back, a.W.names⟩ (ev_varLs (i := 3) rfl p1) (Ev.ls (ev_lcmLA a.ways wayD (fun p => wayD (p.2, p.1)) (evi_list (ev_ways_between a (ev_varI (i := 0) rfl (Im.same s1 h1)) (ev_varI (i := 1) rfl (Im.same s1 h2)) (ev_varI (i := 2) rfl (Im.same s1 h3)) hp)) (Nat.le_trans lw (by decide))
    (fun p v H2 hpm s2 p2 => g_names2 p2 fun u6 u7 k6 k7 => ⟨rfl, Same.refl _, ev_tup2 (ev_varI rfl k7) (ev_varI rfl k6)⟩) (gm_tup (gm_cons gm_name (gm_cons gm_name gm_nil))) (by unfold Wls.back; rw [List.map_map]; rfl))) ok) fun v H2 s2 p2 => q v H2 (s1.trans s2) p2
theorem ev_led_from_in {σ : L2.St} {H : Hp} {ta tb tc : TE} (a : Wls) (h : Ev ta σ H (oI K (webD a.W))) (l : Ev tb σ H (oI K (sizesD a.W a.L))) (k : Ev tc σ H (oI K (streamD a.L.2 a.s))) (hp : a.Ok) : Ev (tCall (sp_led_from_in K) [] E0 (tCons ta (tCons tb (tCons tc tNil)))) σ H (oE (CloR a.back a.ends) fun ss => oI K (strsD ss)) := ev_call a (eva_cons h (eva_cons l (eva_cons k eva_nil))) hp
def sp_led_to (K : PySem.W.Frag) : Sp := spD (α := Wls) (fun a => [oI K (webD a.W), oI K (frD a.L), oI K (streamD a.L.2 a.s)]) Wls.Ok fun a => oE (CloR a.ways a.starts) fun ss => oI K (strsD ss)
theorem at_led_to (T : Tx K mg) : At P w K mg base 8 "led_to" ["web", "price", "stream"] (sp_led_to K) := by
  refine at_of T.d_led_to sc_led_to (fun _ => rfl) fun f cdv A outer s H vs Q E a hr hp ha q => ?_
  refine ⟨_, (pss_cons (ps_expr (pe_at (at_check_stream T) (hr.mono (by decide)) (by rfl) (pa_cons (pv 0) (pa_cons (pv 1) (pa_cons (pv 2) pa_nil)))))
 (pss_one (ps_ret (pe_at (at_led_to_in T) (hr.mono (by decide)) (by rfl) (pa_cons (pv 0) (pa_cons (pe_at (at_sizes_at T) (hr.mono (by decide)) (by rfl) (pa_cons (pv 0) (pa_cons (pv 1) pa_nil))) (pa_cons (pv 2) pa_nil))))))), ?_⟩
  walk_at "nk"
  obtain ⟨v1, v2, v3, rfl, h1, h2, h3⟩ := oall3 ha
  refine q_drop (ev_check_stream a (ev_varI (i := 0) rfl h1) (ev_varI (i := 1) rfl h2) (ev_varI (i := 2) rfl h3) hp) fun _ H1 s1 _ => ?_
  exact s_ret (ev_led_to_in a (ev_varI (i := 0) rfl (Im.same s1 h1)) (ev_sizes_at (ev_varI (i := 0) rfl (Im.same s1 h1)) (ev_varI (i := 1) rfl (Im.same s1 h2)) hp.hw hp.hl) (ev_varI (i := 2) rfl (Im.same s1 h3)) hp) fun v H2 s2 p2 => q v H2 (s1.trans s2) p2
theorem ev_led_to {σ : L2.St} {H : Hp} {ta tb tc : TE} (a : Wls) (h : Ev ta σ H (oI K (webD a.W))) (l : Ev tb σ H (oI K (frD a.L))) (k : Ev tc σ H (oI K (streamD a.L.2 a.s))) (hp : a.Ok) : Ev (tCall (sp_led_to K) [] E0 (tCons ta (tCons tb (tCons tc tNil)))) σ H (oE (CloR a.ways a.starts) fun ss => oI K (strsD ss)) := ev_call a (eva_cons h (eva_cons l (eva_cons k eva_nil))) hp
def sp_led_from (K : PySem.W.Frag) : Sp := spD (α := Wls) (fun a => [oI K (webD a.W), oI K (frD a.L), oI K (streamD a.L.2 a.s)]) Wls.Ok fun a => oE (CloR a.back a.ends) fun ss => oI K (strsD ss)
theorem at_led_from (T : Tx K mg) : At P w K mg base 8 "led_from" ["web", "price", "stream"] (sp_led_from K) := by
  refine at_of T.d_led_from sc_led_from (fun _ => rfl) fun f cdv A outer s H vs Q E a hr hp ha q => ?_
  refine ⟨_, (pss_cons (ps_expr (pe_at (at_check_stream T) (hr.mono (by decide)) (by rfl) (pa_cons (pv 0) (pa_cons (pv 1) (pa_cons (pv 2) pa_nil)))))
 (pss_one (ps_ret (pe_at (at_led_from_in T) (hr.mono (by decide)) (by rfl) (pa_cons (pv 0) (pa_cons (pe_at (at_sizes_at T) (hr.mono (by decide)) (by rfl) (pa_cons (pv 0) (pa_cons (pv 1) pa_nil))) (pa_cons (pv 2) pa_nil))))))), ?_⟩
  walk_at "nk"
  obtain ⟨v1, v2, v3, rfl, h1, h2, h3⟩ := oall3 ha
  refine q_drop (ev_check_stream a (ev_varI (i := 0) rfl h1) (ev_varI (i := 1) rfl h2) (ev_varI (i := 2) rfl h3) hp) fun _ H1 s1 _ => ?_
  exact s_ret (ev_led_from_in a (ev_varI (i := 0) rfl (Im.same s1 h1)) (ev_sizes_at (ev_varI (i := 0) rfl (Im.same s1 h1)) (ev_varI (i := 1) rfl (Im.same s1 h2)) hp.hw hp.hl) (ev_varI (i := 2) rfl (Im.same s1 h3)) hp) fun v H2 s2 p2 => q v H2 (s1.trans s2) p2
theorem ev_led_from {σ : L2.St} {H : Hp} {ta tb tc : TE} (a : Wls) (h : Ev ta σ H (oI K (webD a.W))) (l : Ev tb σ H (oI K (frD a.L))) (k : Ev tc σ H (oI K (streamD a.L.2 a.s))) (hp : a.Ok) : Ev (tCall (sp_led_from K) [] E0 (tCons ta (tCons tb (tCons tc tNil)))) σ H (oE (CloR a.back a.ends) fun ss => oI K (strsD ss)) := ev_call a (eva_cons h (eva_cons l (eva_cons k eva_nil))) hp
end
end Cut
end
section
namespace Cut
open PySem PySem.Spec PyProof.Rows L2
local macro_rules | `(tactic| walk_at "nk") => `(tactic| first | dsimp only [cxOf, Cx.nox, Cx.wish, Cx.blk] | skip)
local macro_rules | `(tactic| walk_at "im") => `(tactic| first
  | assumption
  | exact Im.int _ | exact Im.str _ | exact Im.bl _ | exact Im.non
  | (refine Im.same (by assumption) ?_; walk_at "im"))
local macro_rules | `(tactic| walk_at "side") => `(tactic| first | assumption | rfl | omega)
local macro_rules | `(tactic| walk_at "ev") => `(tactic| first
  | (with_reducible exact ev_int) | (with_reducible exact ev_str) | (with_reducible exact ev_bl) | (with_reducible exact ev_non)
  | ((with_reducible apply ev_varI); rfl; walk_at "im")
  | ((with_reducible apply ev_ixT); walk_at "ev"; walk_at "ev"; walk_at "side")
  | ((with_reducible apply ev_add); walk_at "ev"; walk_at "ev")
  | ((with_reducible apply ev_sub); walk_at "ev"; walk_at "ev")
  | ((with_reducible apply ev_mul); walk_at "ev"; walk_at "ev"; walk_at "side")
  | ((with_reducible apply ev_div); walk_at "ev"; walk_at "ev"; walk_at "side")
  | ((with_reducible apply ev_mod); walk_at "ev"; walk_at "ev"; walk_at "side")
  | ((with_reducible apply ev_eqI); walk_at "ev"; walk_at "ev")
  | ((with_reducible apply ev_neI); walk_at "ev"; walk_at "ev")
  | ((with_reducible apply ev_eqS); walk_at "ev"; walk_at "ev")
  | ((with_reducible apply ev_neS); walk_at "ev"; walk_at "ev")
  | ((with_reducible apply ev_cmp); walk_at "ev"; walk_at "ev")
  | ((with_reducible apply ev_tup1); walk_at "ev")
  | ((with_reducible apply ev_tup2); walk_at "ev"; walk_at "ev")
  | ((with_reducible apply ev_tup3); walk_at "ev"; walk_at "ev"; walk_at "ev")
  | ((with_reducible apply ev_tup4); walk_at "ev"; walk_at "ev"; walk_at "ev"; walk_at "ev")
  | ((with_reducible apply ev_tup5); walk_at "ev"; walk_at "ev"; walk_at "ev"; walk_at "ev"; walk_at "ev")
  | ((with_reducible apply ev_lenT); walk_at "ev")
  | ((with_reducible apply ev_abs); walk_at "ev")
  | ((with_reducible apply ev_tupleL); walk_at "ev")
  | ((with_reducible apply ev_notV); walk_at "ev")
  | assumption)

/-! the least, told -/
noncomputable def lowL (W : Web) (p q : Int) : List Str := W.names.filter (lowB (fam W p q))
noncomputable def highL (W : Web) (p q : Int) : List Str := W.names.filter fun x => !leadB (fam W p q) x
section
variable {a : Wls} {ss : List Str}
theorem Wls.Ok.fam (h : a.Ok) : FamOk (fam a.W a.L.1 a.L.2) a.W.names a.starts a.ends a.ways := by
  obtain ⟨val, m⟩ := h.m
  exact fam_ok h.hw.nm m
theorem clo_in {names : List Str} {ways : List (Str × Str)} {st ss : List Str} (c : IsClo ways st ss) (hs : ∀ x ∈ st, x ∈ names) (hw : ∀ p ∈ ways, p.2 ∈ names) : ∀ x ∈ ss, x ∈ names := fun x hx =>
  of_decide_eq_true (c.least (fun y => decide (y ∈ names)) (fun p hp _ => decide_eq_true (hw p hp)) (fun y hy => decide_eq_true (hs y hy)) x hx)
theorem clo_low (h : a.Ok) (c : CloR a.ways a.starts ss) : ss = lowL a.W a.L.1 a.L.2 ∧ ∀ x, x ∈ ss ↔ Low (fam a.W a.L.1 a.L.2) x := by
  have fo := h.fam
  have iff := low_iff fo c.1
  refine ⟨ris_eq sto_str c.2 (h.hw.nm.ris.filter _) fun x => ?_, iff⟩
  unfold lowL
  rw [List.mem_filter]
  constructor
  · intro hx
    exact ⟨clo_in c.1 fo.inS (fun p hp => (fo.inW p hp).2) x hx, cdec_iff.mpr ((iff x).mp hx)⟩
  · intro hx
    exact (iff x).mpr (cdec_iff.mp hx.2)
theorem clo_lead (h : a.Ok) (c : CloR a.back a.ends ss) : ∀ x, x ∈ ss ↔ Lead (fam a.W a.L.1 a.L.2) x := lead_iff h.fam c.1
theorem high_of (h : a.Ok) (c : CloR a.back a.ends ss) : (a.W.names.filter fun x => !decide (x ∈ ss)) = highL a.W a.L.1 a.L.2 := List.filter_congr fun x _ => by
  unfold leadB
  have iff := clo_lead h c x
  cases e : cdec (Lead (fam a.W a.L.1 a.L.2) x) with
  | true => rw [decide_eq_true (iff.mpr (cdec_iff.mp e))]
  | false => rw [decide_eq_false fun z => cdec_no.mp e (iff.mp z)]
end
/-- what each least cut holds -/
structure ValR (W : Web) (p q : Int) (val : Int) : Prop where
  val : ∀ S, fam W p q S → Cval W p q S = val
  fo : ∃ (starts ends : List Str) (ways : List (Str × Str)), FamOk (fam W p q) W.names starts ends ways
section
variable {P : Program} {w : World} {K : PySem.W.Frag} {mg : Str → Option Value} {base : Heap}
noncomputable def toldD (W : Web) (L : Fr) (val : Int) : PyData := .tuple [frD (red val L.2), strsD (lowL W L.1 L.2), strsD (highL W L.1 L.2)]
noncomputable def sp_least_told (K : PySem.W.Frag) : Sp := spD (α := Web × Fr) (fun a => [oI K (webD a.1), oI K (frD a.2)]) (fun a => WebOk a.1 ∧ PrOk a.1 a.2) fun a => oE (ValR a.1 a.2.1 a.2.2) fun val => oI K (toldD a.1 a.2 val)
theorem at_least_told (T : Tx K mg) : At P w K mg base 6 "least_told" ["web", "price"] (sp_least_told K) := by
  refine at_of T.d_least_told sc_least_told (fun _ => rfl) fun f cdv A outer s H vs Q E a hr hp ha q => ?_
  refine ⟨_, (pss_cons (ps_set (i := 2) sc_least_told.nd rfl (Or.inl rfl) (pe_at (at_sizes_at T) (hr.mono (by decide)) (by rfl) (pa_cons (pv 0) (pa_cons (pv 1) pa_nil))))
 (pss_cons (ps_set (i := 3) sc_least_told.nd rfl (Or.inl rfl) (pe_at (at_stream_in T) (hr.mono (by decide)) (by rfl) (pa_cons (pv 0) (pa_cons (pv 2) pa_nil))))
 (pss_cons (ps_set (i := 4) sc_least_told.nd rfl (Or.inr rfl) (pe_at (at_led_from_in T) (hr.mono (by decide)) (by rfl) (pa_cons (pv 0) (pa_cons (pv 2) (pa_cons (pv 3) pa_nil)))))
 (pss_cons (ps_set (i := 5) sc_least_told.nd rfl (Or.inl rfl) (pe_callTy (r := rTupleOf K) cr_tupleOf (by rfl) T.m_tuple (by decide +kernel) (pa_cons (pe_lc rfl sc_least_told.nd (show PI _ _ _ (iTup K _) from pi_tup (pe_at (at_names_of T) (hr.mono (by decide)) (by rfl) (pa_cons (pv 0) pa_nil))) (blkOk_by (N := N_least_told) (sc := defScope s_least_told) (own := [("name", 6)]) (by decide +kernel)) (fun _ _ _ _ _ => (pg_name (i := 6) sc_least_told.nd rfl (Or.inl rfl))) (fun _ _ _ _ _ => (pts_one (pt_cmpR (r := rIn K true) op_notIn_seq (pv 6) (pv 4) (by rfl)))) (fun _ _ _ _ _ => (pv 6))) pa_nil)))
 (pss_one (ps_ret (pe_tup (pa_cons (pe_at (at_stream_worth T) (hr.mono (by decide)) (by rfl) (pa_cons (pv 3) pa_nil)) (pa_cons (pe_at (at_led_to_in T) (hr.mono (by decide)) (by rfl) (pa_cons (pv 0) (pa_cons (pv 2) (pa_cons (pv 3) pa_nil)))) (pa_cons (pv 5) pa_nil)))))))))), ?_⟩
  walk_at "nk"
  obtain ⟨v1, v2, rfl, h1, h2⟩ := oall2 ha
  obtain ⟨W, L⟩ := a
  have hw : WebOk W := hp.1
  have hl : PrOk W L := hp.2
  have h1 : Im K H v1 (webD W) := h1
  have h2 : Im K H v2 (frD L) := h2
  refine q_set (ev_sizes_at (ev_varI (i := 0) rfl h1) (ev_varI (i := 1) rfl h2) hw hl) fun u2 H1 s1 p1 => ?_
  have p1 : Im K H1 u2 (sizesD W L) := p1
  refine q_set (ev_stream_in (ev_varI (i := 0) rfl (Im.same s1 h1)) (ev_varI (i := 2) rfl p1) hw hl) fun u3 H2 s2 p2 => ?_
  obtain ⟨st, hm, p2⟩ := p2
  let a : Wls := ⟨W, L, st⟩
  have ok : a.Ok := ⟨hw, hl, hm⟩
  have p2 : Im K H2 u3 (streamD L.2 st) := p2
  have s02 := s1.trans s2
  refine q_set (ev_led_from_in a (ev_varI (i := 0) rfl (Im.same s02 h1)) (ev_varI (i := 2) rfl (Im.same s2 p1)) (ev_varI (i := 3) rfl p2) ok) fun u4 H3 s3 p3 => ?_
  obtain ⟨le, hc, p3⟩ := p3
  have p3 : Im K H3 u4 (.tuple (le.map .str)) := p3
  have s03 := s02.trans s3
  refine q_set (ev_tupleL (Ev.ls (ev_lcm (K := K) (es := (highL W L.1 L.2).map .str) W.names (fun x => .str x) (fun x => !decide (x ∈ le)) (fun x => .str x) (evi_tup (ev_names_of (W := W) (ev_varI (i := 0) rfl (Im.same s03 h1)) hw)) (Nat.le_trans (names_len hw) (by decide))
    (fun x v H4 hx s p => ⟨rfl, Same.refl _, evb_test (ev_inS (K := K) (neg := true) (ev_varI (i := 6) rfl p) (ev_varI (i := 4) rfl (Im.same s p3)).qT), fun _ => ev_varI (i := 6) rfl p⟩) gm_name (by rw [← high_of ok hc])))) fun u5 H4 s4 p4 => ?_
  have s04 := s03.trans s4
  obtain ⟨S1, _, _⟩ := mf_small hw hl hm
  refine s_ret (ev_tupA (K := K) (ds := [frD (red (sm (fun x => x) st.fi) L.2), strsD (lowL W L.1 L.2), strsD (highL W L.1 L.2)]) (eva_cons (ev_stream_worth L.2 st (ev_varI (i := 3) rfl (Im.same (s3.trans s4) p2)) S1) (eva_cons (Ev.imp (ev_led_to_in a (ev_varI (i := 0) rfl (Im.same s04 h1)) (ev_varI (i := 2) rfl (Im.same ((s2.trans s3).trans s4) p1)) (ev_varI (i := 3) rfl (Im.same (s3.trans s4) p2)) ok) fun v H5 s5 p5 => ?_) (eva_cons (ev_varI (i := 5) rfl p4) eva_nil))) (by simp)) fun v H5 s5 p5 => q v H5 (s04.trans s5) ⟨sm (fun x => x) st.fi, ?_, p5⟩
  · obtain ⟨ss, hs, p5⟩ := p5
    have e := (clo_low ok hs).1
    have p5 : Im K H5 v (strsD ss) := p5
    rw [e] at p5
    exact p5
  · refine ⟨fun S hS => ?_, _, _, _, ok.fam⟩
    obtain ⟨val, m⟩ := hm
    rw [worth_in hw.nm m]
    exact fam_val hw.nm m hS
theorem ev_least_told {σ : L2.St} {H : Hp} {ta tb : TE} {W : Web} {L : Fr} (h : Ev ta σ H (oI K (webD W))) (k : Ev tb σ H (oI K (frD L))) (hw : WebOk W) (hl : PrOk W L) : Ev (tCall (sp_least_told K) [] E0 (tCons ta (tCons tb tNil))) σ H (oE (ValR W L.1 L.2) fun val => oI K (toldD W L val)) := ev_call (W, L) (eva_cons h (eva_cons k eva_nil)) ⟨hw, hl⟩
/-- an item of one of several -/
theorem ev_ixE {σ : L2.St} {H : Hp} {te : TE} {i : Int} {β : Type} {rel : β → Prop} {ds : β → List PyData} {d : β → PyData} (h : Ev te σ H (oE rel fun b => oI K (.tuple (ds b)))) (e : ∀ b, atI (ds b) i = some (d b)) : Ev (tOp (rIxT K) te (tC (.int i))) σ H (oE rel fun b => oI K (d b)) :=
  ev_op h (ev_int (K := K)) fun x y H1 s p1 p2 Q q => by
    obtain ⟨b, hb, p1⟩ := p1
    obtain ⟨a, xs, rfl, h1, h2⟩ := Im.tup_inv p1
    obtain ⟨v, h3, h4⟩ := h2.atI (e b)
    exact ⟨a, xs, i, v, rfl, Im.int_inv p2, h1, h3, q v H1 (Same.refl H1) ⟨b, hb, h4⟩⟩
def sp_least_worth (K : PySem.W.Frag) : Sp := spD (α := Web × Fr) (fun a => [oI K (webD a.1), oI K (frD a.2)]) (fun a => WebOk a.1 ∧ PrOk a.1 a.2) fun a => oE (ValR a.1 a.2.1 a.2.2) fun val => oI K (frD (red val a.2.2))
theorem at_least_worth (T : Tx K mg) : At P w K mg base 7 "least_worth" ["web", "price"] (sp_least_worth K) := by
  refine at_of T.d_least_worth sc_least_worth (fun _ => rfl) fun f cdv A outer s H vs Q E a hr hp ha q => ?_
  refine ⟨_, (pss_one (ps_ret (pe_ix (r := rIxT K) ix_tup (pe_at (at_least_told T) (hr.mono (by decide)) (by rfl) (pa_cons (pv 0) (pa_cons (pv 1) pa_nil))) pe_int (fun _ _ => rfl)))), ?_⟩
  walk_at "nk"
  obtain ⟨v1, v2, rfl, h1, h2⟩ := oall2 ha
  exact s_ret (ev_ixE (i := 0) (d := fun val => frD (red val a.2.2)) (ev_least_told (ev_varI (i := 0) rfl h1) (ev_varI (i := 1) rfl h2) hp.1 hp.2) fun _ => rfl) q
theorem ev_least_worth {σ : L2.St} {H : Hp} {ta tb : TE} {W : Web} {L : Fr} (h : Ev ta σ H (oI K (webD W))) (k : Ev tb σ H (oI K (frD L))) (hw : WebOk W) (hl : PrOk W L) : Ev (tCall (sp_least_worth K) [] E0 (tCons ta (tCons tb tNil))) σ H (oE (ValR W L.1 L.2) fun val => oI K (frD (red val L.2))) := ev_call (W, L) (eva_cons h (eva_cons k eva_nil)) ⟨hw, hl⟩
noncomputable def sp_least_cut (K : PySem.W.Frag) : Sp := spD (α := Web × Fr) (fun a => [oI K (webD a.1), oI K (frD a.2)]) (fun a => WebOk a.1 ∧ PrOk a.1 a.2) fun a => oI K (strsD (lowL a.1 a.2.1 a.2.2))
theorem oe_const {σ : L2.St} {H : Hp} {te : TE} {β : Type} {rel : β → Prop} {P : Ob} (h : Ev te σ H (oE rel fun _ => P)) : Ev te σ H P := h.imp fun _ _ _ ⟨_, _, p⟩ => p
theorem at_least_cut (T : Tx K mg) : At P w K mg base 7 "least_cut" ["web", "price"] (sp_least_cut K) := by
  refine at_of T.d_least_cut sc_least_cut (fun _ => rfl) fun f cdv A outer s H vs Q E a hr hp ha q => ?_
  refine ⟨_, (pss_one (ps_ret (pe_ix (r := rIxT K) ix_tup (pe_at (at_least_told T) (hr.mono (by decide)) (by rfl) (pa_cons (pv 0) (pa_cons (pv 1) pa_nil))) pe_int (fun _ _ => rfl)))), ?_⟩
  walk_at "nk"
  obtain ⟨v1, v2, rfl, h1, h2⟩ := oall2 ha
  exact s_ret (oe_const (ev_ixE (i := 1) (d := fun _ => strsD (lowL a.1 a.2.1 a.2.2)) (ev_least_told (ev_varI (i := 0) rfl h1) (ev_varI (i := 1) rfl h2) hp.1 hp.2) fun _ => rfl)) q
theorem ev_least_cut {σ : L2.St} {H : Hp} {ta tb : TE} {W : Web} {L : Fr} (h : Ev ta σ H (oI K (webD W))) (k : Ev tb σ H (oI K (frD L))) (hw : WebOk W) (hl : PrOk W L) : Ev (tCall (sp_least_cut K) [] E0 (tCons ta (tCons tb tNil))) σ H (oI K (strsD (lowL W L.1 L.2))) := ev_call (W, L) (eva_cons h (eva_cons k eva_nil)) ⟨hw, hl⟩
noncomputable def sp_most_cut (K : PySem.W.Frag) : Sp := spD (α := Web × Fr) (fun a => [oI K (webD a.1), oI K (frD a.2)]) (fun a => WebOk a.1 ∧ PrOk a.1 a.2) fun a => oI K (strsD (highL a.1 a.2.1 a.2.2))
theorem at_most_cut (T : Tx K mg) : At P w K mg base 7 "most_cut" ["web", "price"] (sp_most_cut K) := by
  refine at_of T.d_most_cut sc_most_cut (fun _ => rfl) fun f cdv A outer s H vs Q E a hr hp ha q => ?_
  refine ⟨_, (pss_one (ps_ret (pe_ix (r := rIxT K) ix_tup (pe_at (at_least_told T) (hr.mono (by decide)) (by rfl) (pa_cons (pv 0) (pa_cons (pv 1) pa_nil))) pe_int (fun _ _ => rfl)))), ?_⟩
  walk_at "nk"
  obtain ⟨v1, v2, rfl, h1, h2⟩ := oall2 ha
  exact s_ret (oe_const (ev_ixE (i := 2) (d := fun _ => strsD (highL a.1 a.2.1 a.2.2)) (ev_least_told (ev_varI (i := 0) rfl h1) (ev_varI (i := 1) rfl h2) hp.1 hp.2) fun _ => rfl)) q
theorem ev_most_cut {σ : L2.St} {H : Hp} {ta tb : TE} {W : Web} {L : Fr} (h : Ev ta σ H (oI K (webD W))) (k : Ev tb σ H (oI K (frD L))) (hw : WebOk W) (hl : PrOk W L) : Ev (tCall (sp_most_cut K) [] E0 (tCons ta (tCons tb tNil))) σ H (oI K (strsD (highL W L.1 L.2))) := ev_call (W, L) (eva_cons h (eva_cons k eva_nil)) ⟨hw, hl⟩
end
end Cut
end
section
namespace Cut
open PySem PySem.Spec PyProof.Rows L2
/-! sorted, of rows of texts -/
theorem ltS_dec (x y : Str) : ltS x y = decide (x.cps.toList < y.cps.toList) := PyProof.Rows.ltCps_eq _ _
theorem str_beqD (x y : Str) : (x == y) = decide (x = y) := by
  by_cases h : x = y
  · subst h; simp
  · simp [h]
theorem ltT_swo {α : Type} (k : α → List Str) : SrtO.Swo fun x y => ltT (k x) (k y) := ⟨fun x y h => Sto.asym sto_tup h, fun x y z h1 h2 => Sto.neg sto_tup h1 h2⟩
/-- the row of texts at v -/
def RowAt (h : Heap) (v : Value) (xs : List Str) : Prop := ∃ t us, v = .ref t ∧ h.IsTuple t us.toArray ∧ StrsAre us xs
theorem RowAt.keeps {h h' : Heap} {v : Value} {xs : List Str} (r : RowAt h v xs) (k : ∀ b o, v = .ref b → h.get? b = some o → o.cls = .type "tuple" → h'.get? b = some o) : RowAt h' v xs := by
  obtain ⟨t, us, rfl, ⟨o, e, c, d⟩, s⟩ := r
  exact ⟨t, us, rfl, ⟨o, k t o rfl e c, c, d⟩, s⟩
theorem strs_len {us : List Value} {xs : List Str} (h : StrsAre us xs) : us.length = xs.length := by
  induction h with
  | nil => rfl
  | cons y t _ ih => rw [List.length_cons, List.length_cons, ih]
section
variable {prog : Program} {w : World} {A : Around} {E : Value → Shared → Prop} {s : Shared}
theorem lex_rows {fin : Bool} {Q : Bool → Shared → Prop} : ∀ {us vs : List Value} {xs ys : List Str} (i : Nat), StrsAre us xs → StrsAre vs ys → fin = decide (us.length < vs.length) → Q (ltT xs ys) s → PySem.W.KatLex prog w A true fin Q (us.zip vs) i s
  | _, _, _, _, i, .nil, .nil, e, q => PySem.W.kat_nil (by rw [e]; exact q)
  | _, _, _, _, i, .nil, .cons y t r, e, q => PySem.W.kat_nil (by
      rw [e, decide_eq_true (by simp)]
      exact q)
  | _, _, _, _, i, .cons x t r, .nil, e, q => PySem.W.kat_nil (by
      rw [e, decide_eq_false (by simp)]
      exact q)
  | _, _, _, _, i, .cons (vs := us) (ys := xs) x t r, .cons (vs := vs) (ys := ys) y u r', e, q => by
    rw [List.zip_cons_cons]
    refine PySem.W.kat_cons (SeqAt.EqAt.str_str x t y u prog w _ _ ?_)
    rw [str_beqD]
    have q' : Q (if x = y then ltT xs ys else ltS x y) s := q
    refine PySem.W.kat_go (fun e1 => PySem.W.kat_yes (lex_rows (i + 1) r r' ?_ ?_)) fun e1 => PySem.W.kat_no ?_
    · rw [e, List.length_cons, List.length_cons]
      exact decide_eq_decide.mpr ⟨fun z => by omega, fun z => by omega⟩
    · rw [if_pos (of_decide_eq_true e1)] at q'
      exact q'
    · rw [if_neg (of_decide_eq_false e1), ltS_dec] at q'
      cases hi : (true && i == 0) with
      | true => exact oneLt_str q'
      | false => exact PySem.W.kat_one _ _ (lt_str q')
theorem lexAt_rows {us vs : List Value} {xs ys : List Str} (h : StrsAre us xs) (k : StrsAre vs ys) : ∀ n i, n + i = min xs.length ys.length →
    _root_.Ob.lexAt (fun j => decide (xs.getD j ⟨#[]⟩ = ys.getD j ⟨#[]⟩)) (fun j => ltS (xs.getD j ⟨#[]⟩) (ys.getD j ⟨#[]⟩)) (decide (xs.length < ys.length)) i n = ltT (xs.drop i) (ys.drop i) := by
  intro n
  induction n with
  | zero =>
    intro i hi
    rw [_root_.Ob.lexAt_zero]
    rcases Nat.lt_or_ge i xs.length with q | q
    · have e2 : ys.drop i = [] := List.drop_of_length_le (by omega)
      rw [e2, List.drop_eq_getElem_cons q]
      exact decide_eq_false (by omega)
    · have e1 : xs.drop i = [] := List.drop_of_length_le (by omega)
      rw [e1]
      rcases Nat.lt_or_ge i ys.length with q2 | q2
      · rw [List.drop_eq_getElem_cons q2]
        exact decide_eq_true (by omega)
      · rw [List.drop_of_length_le q2]
        exact decide_eq_false (by omega)
  | succ n ih =>
    intro i hi
    have h1 : i < xs.length := by omega
    have h2 : i < ys.length := by omega
    rw [_root_.Ob.lexAt_succ, ih (i + 1) (by omega), List.drop_eq_getElem_cons h1, List.drop_eq_getElem_cons h2]
    have g1 : xs.getD i ⟨#[]⟩ = xs[i] := by simp [h1]
    have g2 : ys.getD i ⟨#[]⟩ = ys[i] := by simp [h2]
    rw [g1, g2]
    show _ = if xs[i] = ys[i] then _ else _
    by_cases e : xs[i] = ys[i]
    · rw [if_pos (decide_eq_true e), if_pos e]
    · rw [if_neg (by rw [decide_eq_false e]; decide), if_neg e]
theorem strs_get {us : List Value} {xs : List Str} (h : StrsAre us xs) : ∀ (j : Nat) (h1 : j < us.length), ∃ t, us[j] = .str (xs.getD j ⟨#[]⟩) t := by
  induction h with
  | nil => exact fun j h1 => absurd h1 (by simp)
  | cons y t r ih =>
    intro j h1
    cases j with
    | zero => exact ⟨t, rfl⟩
    | succ j =>
      obtain ⟨t', e⟩ := ih j (by simpa using h1)
      exact ⟨t', by simpa using e⟩
theorem one_rows {x y : Value} {xs ys : List Str} {Q : Bool → Shared → Prop} (hu : A.units < cLine) (hx : RowAt s.heap x xs) (hy : RowAt s.heap y ys) (q : Q (ltT xs ys) s) : wpAny (model prog w) A (oneLt' true x y) Q E s := by
  obtain ⟨a, us, rfl, ha, sa⟩ := hx
  obtain ⟨b, vs, rfl, hb, sb⟩ := hy
  obtain ⟨⟨cls, dd, data, sl⟩, ho, hc, n, hd⟩ := id ha
  obtain ⟨⟨cls2, dd2, data2, sl2⟩, ho2, hc2, n2, hd2⟩ := id hb
  simp only at hc hd hc2 hd2
  subst hc hd hc2 hd2
  rw [oneLt'_eq]
  simp only [if_true]
  refine wpAny_bind (wpAny_cRoomFor hu ?_)
  refine wpAny_bind (wpAny_callSpecialIfBound?_slot (T := "tuple") ⟨_, ho, rfl⟩ F.slot_tuple_lt (call_meets F.slot_tuple_lt ⟨_, ho, rfl⟩ F.entry_tuple_lt (F.args_tuple_lt_2 _ _)
    (_root_.Ob.tuple_ltAt a b us.toArray vs.toArray n n2 dd dd2 sl sl2 (fun j => decide (xs.getD j ⟨#[]⟩ = ys.getD j ⟨#[]⟩)) (fun j => ltS (xs.getD j ⟨#[]⟩) (ys.getD j ⟨#[]⟩))) ⟨ho, ho2, fun j h1 h2 => ?_, fun j h1 h2 _ => ?_, ?_⟩))
  · obtain ⟨t, e1⟩ := strs_get sa j (by simpa using h1)
    obtain ⟨u, e2⟩ := strs_get sb j (by simpa using h2)
    have e1' : us.toArray[j] = Value.str (xs.getD j ⟨#[]⟩) t := by simpa using e1
    have e2' : vs.toArray[j] = Value.str (ys.getD j ⟨#[]⟩) u := by simpa using e2
    rw [e1', e2', ← str_beqD]
    exact SeqAt.EqAt.str_str _ _ _ _
  · obtain ⟨t, e1⟩ := strs_get sa j (by simpa using h1)
    obtain ⟨u, e2⟩ := strs_get sb j (by simpa using h2)
    have e1' : us.toArray[j] = Value.str (xs.getD j ⟨#[]⟩) t := by simpa using e1
    have e2' : vs.toArray[j] = Value.str (ys.getD j ⟨#[]⟩) u := by simpa using e2
    rw [e1', e2', ltS_dec]
    exact fun prog w E Q h => DT.rcLt_str _ _ _ _ _ _ prog w E Q h
  · have l1 := strs_len sa
    have l2 := strs_len sb
    have e := lexAt_rows sa sb (min xs.length ys.length) 0 rfl
    rw [List.drop_zero, List.drop_zero] at e
    have s1 : us.toArray.size = xs.length := by simp [l1]
    have s2 : vs.toArray.size = ys.length := by simp [l2]
    rw [s1, s2, e]
    exact wpAny_truthy_bool q
/-- what the sort asks -/
structure RowsOk (k : Value → List Str) (vs : List Value) : Prop where
  emp : (∀ v ∈ vs, k v ≠ []) ∨ ∃ v r, vs = v :: r ∧ k v = []
theorem row_type {M : Model} {h : Heap} {v : Value} {xs : List Str} (r : RowAt h v xs) : PySem.W.Looks M h (typeOf v) (.type "tuple") := by
  obtain ⟨t, us, rfl, ⟨o, e, c, d⟩, _⟩ := r
  rw [← c]
  exact (PySem.W.Looks.ld e).andThen .now
theorem firsts_rows {M : Model} {k : Value → List Str} : ∀ (vs : List Value) {Q : List (Option Value) → Shared → Prop}, (∀ v ∈ vs, RowAt s.heap v (k v)) →
    (∀ os : List (Option Value), os.length = vs.length → (∀ (j : Nat) v, vs[j]? = some v → k v = [] → os[j]? = some none) → Q os s) → wpAny M A (vs.mapM firstOfTuple') Q E s
  | [], _, _, q => by rw [List.mapM_nil]; exact wpAny_pure (q [] rfl fun j v e => absurd e (by simp))
  | v :: vs, Q, hr, q => by
    obtain ⟨t, us, rfl, ⟨o, e, c, n, d⟩, sa⟩ := hr _ List.mem_cons_self
    rw [List.mapM_cons]
    refine wpAny_bind ?_
    rw [PySem.W.kas_first_eq]
    refine wpAny_bind (PySem.W.Looks.here (show PySem.W.Looks M s.heap (typeOf (.ref t)) o.cls from (PySem.W.Looks.ld e).andThen .now) ?_)
    rw [c, if_neg (by first | decide | simp)]
    refine wpAny_bind (listItems_at e d (wpAny_pure ?_))
    refine wpAny_bind (firsts_rows (k := k) vs (Q := fun bs s' => wpAny M A (pure (us.toArray[0]? :: bs)) Q E s') (fun v hv => hr v (List.mem_cons_of_mem _ hv)) fun os hl ho => wpAny_pure (q _ (by simp [hl]) fun j v ej kj => ?_))
    cases j with
    | zero =>
      have ej : Value.ref t = v := Option.some.inj ej
      subst ej
      rw [kj] at sa
      cases sa
      rfl
    | succ j => exact ho j v ej kj
theorem rows_sortable {a : Addr} {vs : List Value} {k : Value → List Str} (hu : A.units < cLine) (h2 : 2 ≤ vs.length) (hp : ∀ v ∈ vs, RowAt s.heap v (k v)) (ok : RowsOk k vs) (ha : ∀ o, s.heap.get? a = some o → o.cls ≠ .type "tuple") :
    SrtO.SortableO prog w A s a vs fun v u => ltT (k v) (k u) := by
  intro h' keep
  have hp' : ∀ v ∈ vs, RowAt h' v (k v) := fun v hm => (hp v hm).keeps fun b o _ e c => keep b o (fun z => by subst z; exact ha o e c) e
  rcases ok.emp with all | ⟨v0, r, rfl, k0⟩
  · have fs : ∀ vs : List Value, (∀ v ∈ vs, RowAt h' v (k v)) → (∀ v ∈ vs, k v ≠ []) → ∃ fs : List Value, PySem.W.KatTups h' vs fs ∧ fs.length = vs.length ∧ ∀ f ∈ fs, ∃ x t, f = Value.str x t := fun vs => by
      induction vs with
      | nil => exact fun _ _ => ⟨[], trivial, rfl, fun f h => absurd h (by simp)⟩
      | cons v vs ih =>
        intro hr hk
        obtain ⟨fs, f1, f2, f3⟩ := ih (fun v hv => hr v (List.mem_cons_of_mem _ hv)) fun v hv => hk v (List.mem_cons_of_mem _ hv)
        obtain ⟨t, us, rfl, ⟨o, e, c, n, d⟩, sa⟩ := hr _ List.mem_cons_self
        have hk0 := hk _ List.mem_cons_self
        cases hkv : k (.ref t) with
        | nil => exact absurd hkv hk0
        | cons y ys =>
          rw [hkv] at sa
          cases sa with
          | cons _ tk r =>
            refine ⟨.str y tk :: fs, PySem.W.KatTups.cons e c d (by simp) f1, by simp [f2], fun f hf => ?_⟩
            rcases List.mem_cons.mp hf with rfl | hf
            · exact ⟨y, tk, rfl⟩
            · exact f3 f hf
    obtain ⟨fs, f1, f2, f3⟩ := fs vs hp' all
    refine ⟨tuples' true, fun Q E hq => ?_, fun p q hm hm' => ?_⟩
    · refine PySem.W.kat_kind (T := .type "str") f1 (by omega) (fun f hm => ?_) (by rfl) ?_
      · obtain ⟨x, t, rfl⟩ := f3 f hm
        exact PySem.W.Looks.now
      · have e : (Value.type "str" != Value.type "tuple") = true := by first | decide +kernel | rfl | decide
        rw [e]
        exact hq
    · obtain ⟨t, us, e1, ⟨o, g1, c1, n1, d1⟩, sa⟩ := hp' _ hm
      obtain ⟨t', us', e2, ⟨o', g2, c2, n2, d2⟩, sb⟩ := hp' _ hm'
      show wpAny (model prog w) A (keyLt' (tuples' true) p.1 q.1) (fun r s' => s' = { s with heap := h' } ∧ r = ltT (k p.1) (k q.1)) (fun _ _ => False) { s with heap := h' }
      generalize k p.1 = xs at sa ⊢
      generalize k q.1 = ys at sb ⊢
      rw [e1, e2]
      refine PySem.W.kat_lt g1 d1 g2 d2 ?_
      have s1 : us.toArray.size = us.length := by simp
      have s2 : us'.toArray.size = us'.length := by simp
      rw [s1, s2]
      exact lex_rows 0 sa sb rfl ⟨rfl, rfl⟩
  · refine ⟨oneType', fun Q E hq => ?_, fun p q hm hm' => ?_⟩
    · rw [keyKind'_eq, List.mapM_toArray, map_eq_pure_bind]
      refine wpAny_bind (wpAny_bind (firsts_rows (k := k) (s := { s with heap := h' }) (v0 :: r) hp' fun os hl ho => wpAny_pure ?_))
      have o0 := ho 0 v0 rfl k0
      cases os with
      | nil => cases o0
      | cons o os =>
        obtain rfl : o = none := Option.some.inj o0
        rw [if_neg (by simp), if_neg (by simp)]
        rw [oneTypeOnly'_eq, List.mapM_toArray, map_eq_pure_bind]
        refine wpAny_bind (wpAny_bind (wpAny_bind (PySem.W.kas_mapM (r := Value.type "tuple") _ (fun v hv Q' hq => (row_type (hp' v hv)).here hq) (wpAny_pure ?_))))
        have all2 : ((List.map (fun _ => Value.type "tuple") (v0 :: r)).toArray.all fun x => x == Value.type "tuple") = true := by
          simp only [List.all_toArray, List.all_map, List.all_eq_true]
          intro _ _
          rfl
        have h0 : (List.map (fun _ => Value.type "tuple") (v0 :: r)).toArray[0]? = some (Value.type "tuple") := by simp
        rw [h0]
        simp only [all2, if_true]
        exact wpAny_pure (wpAny_pure hq)
    · show wpAny (model prog w) A (keyLt' oneType' p.1 q.1) (fun r s' => s' = { s with heap := h' } ∧ r = ltT (k p.1) (k q.1)) (fun _ _ => False) { s with heap := h' }
      rw [keyLt'_oneType]
      exact one_rows hu (hp' _ hm) (hp' _ hm') ⟨rfl, rfl⟩
end
end Cut
namespace Cut
open PySem PySem.Spec PyProof.Rows L2
section
variable {prog : Program} {w : World} {A : Around} {E : Value → Shared → Prop} {s : Shared}
/-- a tuple's items, gathered -/
theorem gather_tuple {l : Addr} {vs : List Value} {Q : List Value → Shared → Prop} (hl : s.heap.IsTuple l vs.toArray) (hsz : vs.length ≤ sizeLine)
    (h : ∀ h' : Heap, (∀ b o, s.heap.get? b = some o → h'.get? b = some o) → Q vs { s with heap := h' }) : wpAny (model prog w) A (collect (.ref l)) Q E s := by
  obtain ⟨o, ho, hc, n, hd⟩ := id hl
  unfold collect
  refine wpAny_bind (wpAny_runValue (codeAny_builtin entry_proto_collect' ?_))
  show wpAny _ _ (do again (.builtin "list.__iadd__" ⟨[← newList [], .ref l], []⟩)) _ _ s
  refine wpAny_bind (wpAny_newList (wpAny_pure ⟨Code.quiet_builtin _ (by decide +kernel), codeAny_builtin entry_list_iadd' ?_⟩))
  show wpAny _ _ (Builtin.List.listExtendWith (.ref s.heap.objs.size) (.ref l) (.ref s.heap.objs.size)) _ _ { s with heap := s.heap.push (seqObj "list" #[] 0) }
  unfold Builtin.List.listExtendWith
  have ho2 : (s.heap.push (seqObj "list" #[] 0)).get? l = some o := Heap.get?_push_of_some _ ho
  refine wpAny_bind (wpAny_typeOf (T := "tuple") ⟨o, ho2, hc⟩ ?_)
  have ht : (Value.type "tuple" == Value.type "tuple") = true := by rfl
  rw [if_pos (by rw [ht]; simp)]
  refine wpAny_bind (listItems_at ho2 hd ?_)
  refine wpAny_bind (listItems_at (xs := #[]) (n := 0) (Heap.get?_push_size _ rfl) rfl ?_)
  rw [if_neg (by simp)]
  refine wpAny_bind (listUpdate_at (xs := #[]) (n := 0) (Heap.get?_push_size _ rfl) rfl ?_ (Nat.zero_le _) (by show (#[] ++ vs.toArray).size ≤ sizeLine + 1; simp only [Array.size_append, List.size_toArray, List.length_nil]; omega))
  refine wpAny_pure ?_
  show wpAny (model prog w) A (do
      let o ← load s.heap.objs.size
      match o.data with
      | .seq xs _ => pure xs.toList
      | _ => unsupported "internal:collect") Q E { s with heap := (s.heap.push (seqObj "list" #[] 0)).update s.heap.objs.size (Obj.mapSeq (· ++ vs.toArray)) }
  refine wpAny_bind (wpAny_load (get?_update_seq (Heap.get?_push_size _ rfl) _) ?_)
  show wpAny _ _ (pure ((#[] : Array Value) ++ vs.toArray).toList) Q E _
  rw [show ((#[] : Array Value) ++ vs.toArray).toList = vs by simp]
  refine wpAny_pure (h _ fun b ob e => ?_)
  rw [Heap.get?_update_ne _ _ _ _ (Nat.ne_of_lt (Heap.lt_size e))]
  exact Heap.get?_push_of_some _ e
theorem gather_list {l : Addr} {vs : List Value} {Q : List Value → Shared → Prop} (hl : s.heap.IsList l vs.toArray) (hsz : vs.length ≤ sizeLine)
    (h : ∀ h' : Heap, (∀ b o, s.heap.get? b = some o → h'.get? b = some o) → Q vs { s with heap := h' }) : wpAny (model prog w) A (collect (.ref l)) Q E s :=
  collect_list hl (h _ fun b ob e => by
    rw [Heap.get?_update_ne _ _ _ _ (Nat.ne_of_lt (Heap.lt_size e))]
    exact Heap.get?_push_of_some _ e) hsz
end
/-- rows of texts, as the walk sees them -/
structure RowsV (K : PySem.W.Frag) (H : Hp) (k : V → List Str) (xs : List V) : Prop where
  row : ∀ x ∈ xs, ∃ t, x = .ref t ∧ SqT K H t ((k x).map V.str)
  emp : (∀ x ∈ xs, k x ≠ []) ∨ ∃ x r, xs = x :: r ∧ k x = []
theorem room_in1 {A : Around} (h : A.units + 65 < cLine) : A.in1.in1.units < cLine := by
  have e : A.in1.in1.units ≤ A.units + 2 := by first | exact Nat.le_add_right _ 2 | exact Nat.le_refl _
  omega
section
variable {X : Cx} {pins : List (Addr × Obj)} {σ : L2.St} {H : Hp} {s : Shared}
theorem sort_rows {v : Value} {xs : List V} {us : List Value} {k : V → List Str} {Q : VK} (hu : X.A.units + 65 < cLine) (I : Inv X pins σ H s) (rv : Vals xs us) (hz : xs.length ≤ sizeLine) (R : RowsV X.K H k xs)
    (hcol : ∀ (G : List Value → Shared → Prop) (E : Value → Shared → Prop), (∀ h' tk, (∀ b o, s.heap.get? b = some o → h'.get? b = some o) → G us { s with heap := h', toks := tk }) → wpAny (model X.prog X.w) X.A.in1 (collect v) G E s)
    (q : ∀ ys p, ys.Perm xs → ys.Pairwise (fun x y => ltT (k y) (k x) = false) → H p = none → Q (.ref p) (upd H p (.lst ys))) : wpAny (model X.prog X.w) X.A (call (.builtin "sorted") [v]) (EP X pins σ Q) X.xe s := by
  obtain ⟨e1, e2⟩ := refs_back rv fun x m => by
    obtain ⟨t, e, _⟩ := R.row x m
    exact ⟨t, e⟩
  have lz : us.length ≤ sizeLine := by rw [← rv.length]; exact hz
  refine Calls.call_function_entry PyProof.Rows.kind_sorted PyProof.Rows.plain_sorted PyProof.Rows.entry_sorted (PyProof.Rows.args_sorted1 _) ?_
  unfold Builtin.«sorted»
  refine wpAny_bind (m := checkCount "sorted" 1 1 _) (wpAny_pure ?_)
  refine wpAny_bind (hcol _ _ fun h' tk hk => ?_)
  have I1 : Inv X pins σ H { s with heap := h', toks := tk } := I.kept hk
  refine wpAny_bind (wpAny_newList ?_ lz)
  have hoL : (h'.push (seqObj "list" us.toArray 0)).get? h'.objs.size = some (seqObj "list" us.toArray 0) := Heap.get?_push_size _ rfl
  have O : SrtO.Swo fun v u : Value => ltT (k (backV v)) (k (backV u)) := ltT_swo fun v => k (backV v)
  have rows : ∀ u ∈ us, RowAt (h'.push (seqObj "list" us.toArray 0)) u (k (backV u)) := fun u hm => by
    obtain ⟨t, rfl⟩ := e2 u hm
    have hx : V.ref t ∈ xs := by rw [e1]; exact List.mem_map.mpr ⟨_, hm, rfl⟩
    obtain ⟨t', e, ht⟩ := R.row _ hx
    cases e
    obtain ⟨its, rt, pt, _⟩ := I1.tuple ht
    have pt : h'.IsTuple t its.toArray := pt
    obtain ⟨o, g, c, d⟩ := pt
    exact ⟨t, its, rfl, ⟨o, Heap.get?_push_of_some _ g, c, d⟩, rt.strs⟩
  have ok : RowsOk (fun v => k (backV v)) us := ⟨by
    rcases R.emp with z | ⟨x, r, ex, kx⟩
    · exact .inl fun u hm => z _ (by rw [e1]; exact List.mem_map.mpr ⟨u, hm, rfl⟩)
    · cases us with
      | nil => rw [ex] at e1; cases e1
      | cons u us =>
        rw [ex] at e1
        have e3 : x = backV u := (List.cons.inj e1).1
        exact .inr ⟨u, us, rfl, by show k (backV u) = []; rw [← e3]; exact kx⟩⟩
  show wpAny _ _ _ _ _ { s with heap := h'.push (seqObj "list" us.toArray 0), toks := tk }
  refine wpAny_bind (wpAny_holding (wpAny_call_entry PyProof.Rows.slot_list_sort ⟨_, hoL, rfl⟩ PyProof.Rows.entry_list_sort
    (SrtO.list_sort_ord (s := { s with heap := h'.push (seqObj "list" us.toArray 0), toks := tk }) O hoL lz (fun h2 => rows_sortable (room_in1 hu) h2 rows ok fun o e => ?_) fun out hs hb => ⟨_, rfl, ?_⟩) (PyProof.Rows.args_list_sort _)))
  · have e' : some o = some (seqObj "list" us.toArray 0) := e.symm.trans hoL
    cases e'
    intro c
    exact absurd (Value.type.inj c) (by decide)
  · obtain ⟨ep, he⟩ := PyProof.Rows.sortedHeap_at (vs := us) (out := out.toArray) hoL
    have h3 : ∀ u ∈ out, ∃ a, u = Value.ref a := fun u hm => e2 u (hb.perm.mem_iff.mp hm)
    have pm : (out.map backV).Perm xs := by rw [e1]; exact hb.perm.map backV
    refine wpAny_pure ⟨_, rfl, .ref h'.objs.size, upd H h'.objs.size (.lst (out.map backV)), I1.laid (t' := tk) (fun b u e => ?_) (Nat.le_refl _)
      (show ObjOk X.prog X.w _ _ _ (.lst (out.map backV)) from ⟨by rw [pm.length_eq]; exact hz, out, ep, vals_back h3, he⟩), rfl, q _ _ pm (List.pairwise_map.mpr hs) (I1.hok.fresh (Nat.le_refl _))⟩
    have hb2 : b < h'.objs.size := Heap.lt_size e
    rw [PyProof.Rows.sortedHeap_old (Nat.ne_of_lt hb2) (by rw [size_push']; exact Nat.lt_succ_of_lt hb2)]
    exact Heap.get?_push_of_some _ e
end
def rSortT (K : PySem.W.Frag) : List V → Hp → VK → Prop := fun vs H Q => ∃ (a : Addr) (xs : List V) (k : V → List Str), vs = [.ref a] ∧ (SqL K H a xs ∨ SqT K H a xs) ∧ RowsV K H k xs ∧
  ∀ ys p, ys.Perm xs → ys.Pairwise (fun x y => ltT (k y) (k x) = false) → H p = none → Q (.ref p) (upd H p (.lst ys))
theorem cr_sortT {X : Cx} (hu : X.A.units + 65 < cLine) : CallR X (.builtin "sorted") (rSortT X.K) := by
  intro pins s σ H vs us Q I r h
  obtain ⟨a, xs, k, rfl, hs, R, q⟩ := h
  obtain ⟨u, rfl, ru⟩ := vals1 r
  obtain rfl : u = Value.ref a := ru
  rcases hs with hs | hs
  · obtain ⟨its, rv, hl, hz⟩ := I.list hs
    exact sort_rows hu I rv hz R (fun G E g => gather_list hl.isList (by rw [← rv.length]; exact hz) fun h' hk => g h' s.toks hk) q
  · obtain ⟨its, rv, hl, hz⟩ := I.tuple hs
    exact sort_rows hu I rv hz R (fun G E g => gather_tuple (show s.heap.IsTuple a its.toArray from hl) (by rw [← rv.length]; exact hz) fun h' hk => g h' s.toks hk) q
/-- the texts at x -/
def strOf1 : V → Option Str
  | .str x => some x
  | _ => none
def rowIn : Option HO → List Str
  | some (.tup xs) => xs.filterMap strOf1
  | _ => []
def rowOf (H : Hp) : V → List Str
  | .ref b => rowIn (H b)
  | _ => []
theorem rowOf_at {H : Hp} {b : Addr} {xs : List Str} (h : H b = some (.tup (xs.map V.str))) : rowOf H (.ref b) = xs := by
  show rowIn (H b) = xs
  rw [h]
  show List.filterMap strOf1 (xs.map V.str) = xs
  rw [List.filterMap_map]
  exact List.filterMap_some
def keyS (k : List Str) : List Key := k.map Sum.inr
def rSortD : List V → Hp → VK → Prop := fun vs H Q => ∃ (d : Addr) (kvs : List (List Key × V)) (ks : List (List Str)), vs = [.ref d] ∧ H d = some (.dT kvs) ∧ kvs.map (·.1) = ks.map keyS ∧ (∀ k ∈ ks, k ≠ []) ∧
  ∀ (rs : List (Addr × List Str)) p, (rs.map (·.2)).Perm ks → (∀ r ∈ rs, H r.1 = some (.tup (r.2.map V.str))) → (rs.map (·.2)).Pairwise (fun x y => ltT y x = false) → H p = none → Q (.ref p) (upd H p (.lst (rs.map fun r => .ref r.1)))
theorem keyS_kV (k : List Str) : (keyS k).map kV = k.map V.str := by
  unfold keyS
  rw [List.map_map]
  rfl
theorem keys_rows {H : Hp} {kvs : List (List Key × V)} {bs : List Addr} (h : IsKeys H kvs bs) : ∀ {ks : List (List Str)}, kvs.map (·.1) = ks.map keyS → (∀ b ∈ bs, ∃ k ∈ ks, H b = some (.tup (k.map V.str))) ∧ bs.map (fun b => rowOf H (.ref b)) = ks := by
  unfold IsKeys at h
  induction h with
  | nil =>
    intro ks e
    cases ks with
    | nil => exact ⟨fun b hb => absurd hb (by simp), rfl⟩
    | cons _ _ => cases e
  | @cons p b ps bs hb _ ih =>
    intro ks e
    cases ks with
    | nil => cases e
    | cons k ks =>
      rw [List.map_cons, List.map_cons] at e
      obtain ⟨e1, e2⟩ := List.cons.inj e
      obtain ⟨i1, i2⟩ := ih e2
      have hb : H b = some (.tup (k.map V.str)) := by
        rw [hb, e1, keyS_kV]
      refine ⟨fun c hc => ?_, ?_⟩
      · rcases List.mem_cons.mp hc with rfl | hc
        · exact ⟨k, List.mem_cons_self, hb⟩
        · obtain ⟨k', h1, h2⟩ := i1 c hc
          exact ⟨k', List.mem_cons_of_mem _ h1, h2⟩
      · rw [List.map_cons, i2, rowOf_at hb]
theorem cr_sortD {X : Cx} (hc : X.calm = true) (hu : X.A.units + 65 < cLine) : CallR X (.builtin "sorted") rSortD := by
  intro pins s σ H xs us Q I r h
  obtain ⟨d, kvs, ks, rfl, hd, hks, hne, q⟩ := h
  obtain ⟨u, rfl, rx⟩ := r.one
  cases rx
  obtain ⟨z, hs, ys, pr, o, es, ep, ho, hx, hdt, he, hn⟩ := (show ObjOk X.prog X.w H s.heap d (.dT kvs) from I.hok d _ hd)
  have l1 : es.size = ys.length := size_of_entries he
  have l2 : kvs.length = ys.length := Paired.length pr
  obtain ⟨k1, k2⟩ := keys_rows (isKeys_of pr) hks
  let bs : List Addr := ys.map fun x => x.2.1
  have eb : (bs.map V.ref).length = ys.length := by rw [List.length_map, List.length_map]
  refine sort_rows (k := rowOf H) hu I (vals_refs bs) (by rw [eb]; omega) ⟨fun x hm => ?_, .inl fun x hm => ?_⟩ (fun G E g => ?_) fun zs p pm srt hp => ?_
  · obtain ⟨b, hb, rfl⟩ := List.mem_map.mp hm
    obtain ⟨k, _, e⟩ := k1 b hb
    rw [rowOf_at e]
    exact ⟨b, rfl, SqT.of e⟩
  · obtain ⟨b, hb, rfl⟩ := List.mem_map.mp hm
    obtain ⟨k, hk, e⟩ := k1 b hb
    rw [rowOf_at e]
    exact hne k hk
  · refine PySem.W.kdu_collect (A := X.A.in1) (kdl_raw hs hx hdt) (I.ok.hd hc) ho (by omega) fun h' tk acc hk it => ?_
    have ea : acc.toList = bs.map Value.ref := by
      have hl : acc.toList.length = ys.length := by rw [Array.length_toList, it.1]; exact l1
      refine List.ext_getElem? fun j => ?_
      rw [List.getElem?_map, List.getElem?_map]
      cases hj : acc.toList[j]? with
      | none =>
        have h1 := List.getElem?_eq_none_iff.mp hj
        rw [List.getElem?_eq_none (by omega)]
        rfl
      | some v =>
        obtain ⟨en, hen, hv⟩ := it.2 j v (by rw [← Array.getElem?_toList]; exact hj)
        have qe := entry_at he j
        rw [hen] at qe
        cases hb : ys[j]? with
        | none =>
          rw [hb] at qe
          exact nomatch (show some en = none from qe)
        | some b =>
          rw [hb] at qe
          have e2 : en = entryOfKey (tupleKind (mixKind X.prog X.w)) b := Option.some.inj qe
          rw [hv, e2]
          rfl
    rw [ea]
    exact g h' tk hk
  · have mem : ∀ x ∈ zs, ∃ b, x = .ref b ∧ H b = some (.tup ((rowOf H x).map V.str)) := fun x hx => by
      obtain ⟨b, hb, rfl⟩ := List.mem_map.mp (pm.mem_iff.mp hx)
      obtain ⟨k, hk, e⟩ := k1 b hb
      exact ⟨b, rfl, by rw [rowOf_at e]; exact e⟩
    have adr : ∀ zs : List V, (∀ x ∈ zs, ∃ b, x = .ref b ∧ H b = some (.tup ((rowOf H x).map V.str))) → ∃ rs : List (Addr × List Str), zs = rs.map (fun r => .ref r.1) ∧ rs.map (·.2) = zs.map (rowOf H) ∧ ∀ r ∈ rs, H r.1 = some (.tup (r.2.map V.str)) := fun zs => by
      induction zs with
      | nil => exact fun _ => ⟨[], rfl, rfl, fun r h => absurd h (by simp)⟩
      | cons x zs ih =>
        intro h
        obtain ⟨rs, r1, r2, r3⟩ := ih fun y hy => h y (List.mem_cons_of_mem _ hy)
        obtain ⟨b, rfl, hb⟩ := h x List.mem_cons_self
        refine ⟨(b, rowOf H (.ref b)) :: rs, by rw [List.map_cons, ← r1], by rw [List.map_cons, List.map_cons, r2], fun r hr => ?_⟩
        rcases List.mem_cons.mp hr with rfl | hr
        · exact hb
        · exact r3 r hr
    obtain ⟨rs, r1, r2, r3⟩ := adr zs mem
    rw [r1]
    refine q rs p ?_ r3 ?_ hp
    · rw [r2, ← k2]
      have := pm.map (rowOf H)
      rw [List.map_map] at this
      exact this
    · rw [r2]
      exact List.pairwise_map.mpr srt
end Cut
namespace Cut
open PySem PySem.Spec PyProof.Rows L2
/-- rows of texts with what they hold -/
inductive RowsR (K : PySem.W.Frag) (H : Hp) : List V → List (List Str) → Prop
  | nil : RowsR K H [] []
  | cons {t : Addr} {c : List Str} {xs : List V} {cs : List (List Str)} : SqT K H t (c.map V.str) → RowsR K H xs cs → RowsR K H (.ref t :: xs) (c :: cs)
def rSortR (K : PySem.W.Frag) : List V → Hp → VK → Prop := fun vs H Q => ∃ (a : Addr) (xs : List V) (cs : List (List Str)), vs = [.ref a] ∧ (SqL K H a xs ∨ SqT K H a xs) ∧ RowsR K H xs cs ∧ ((∀ c ∈ cs, c ≠ []) ∨ ∃ r, cs = [] :: r) ∧
  ∀ (zs : List (V × List Str)) p, (zs.map (·.2)).Perm cs → (∀ z ∈ zs, ∃ t, z.1 = .ref t ∧ SqT K H t (z.2.map V.str)) → (zs.map (·.2)).Pairwise (fun x y => ltT y x = false) → H p = none → Q (.ref p) (upd H p (.lst (zs.map (·.1))))
theorem str_map_inj {a b : List Str} (h : a.map V.str = b.map V.str) : a = b := List.map_inj_right (fun x y e => V.str.inj e) |>.mp h
theorem cr_sortR {X : Cx} (hu : X.A.units + 65 < cLine) : CallR X (.builtin "sorted") (rSortR X.K) := by
  intro pins s σ H vs us Q I r h
  obtain ⟨a, xs, cs, rfl, hs, R, em, q⟩ := h
  have uni : ∀ {t : Addr} {b c : List Str}, SqT X.K H t (b.map V.str) → SqT X.K H t (c.map V.str) → b = c := fun h k => str_map_inj (I.tuple_inj h k)
  let k : V → List Str := fun x => open Classical in if h : ∃ c : List Str, ∃ t, x = .ref t ∧ SqT X.K H t (c.map V.str) then Classical.choose h else []
  have hk : ∀ {t : Addr} {c : List Str}, SqT X.K H t (c.map V.str) → k (.ref t) = c := fun {t c} h => by
    have ex : ∃ c : List Str, ∃ t', V.ref t = .ref t' ∧ SqT X.K H t' (c.map V.str) := ⟨c, t, rfl, h⟩
    show (open Classical in if h : ∃ c : List Str, ∃ t', V.ref t = .ref t' ∧ SqT X.K H t' (c.map V.str) then Classical.choose h else []) = c
    rw [dif_pos ex]
    obtain ⟨t', e, z⟩ := Classical.choose_spec ex
    cases e
    exact uni z h
  have rows : ∀ {xs : List V} {cs : List (List Str)}, RowsR X.K H xs cs → (∀ x ∈ xs, ∃ t, x = .ref t ∧ SqT X.K H t ((k x).map V.str)) ∧ xs.map k = cs := fun {xs cs} R => by
    induction R with
    | nil => exact ⟨fun x h => absurd h (by simp), rfl⟩
    | cons h _ ih =>
      refine ⟨fun x hx => ?_, by rw [List.map_cons, hk h, ih.2]⟩
      rcases List.mem_cons.mp hx with rfl | hx
      · exact ⟨_, rfl, by rw [hk h]; exact h⟩
      · exact ih.1 x hx
  obtain ⟨r1, r2⟩ := rows R
  have RV : RowsV X.K H k xs := ⟨r1, by
    rcases em with z | ⟨rr, z⟩
    · exact .inl fun x hx => z _ (by rw [← r2]; exact List.mem_map.mpr ⟨x, hx, rfl⟩)
    · cases xs with
      | nil => rw [z] at r2; cases r2
      | cons x xs =>
        rw [z] at r2
        exact .inr ⟨x, xs, rfl, (List.cons.inj r2).1⟩⟩
  refine cr_sortT hu pins s σ H _ us Q I r ⟨a, xs, k, rfl, hs, RV, fun ys p pm srt hp => ?_⟩
  have e1 : (ys.map fun y => (y, k y)).map (·.1) = ys := by rw [List.map_map]; exact List.map_id' ys
  have e2 : (ys.map fun y => (y, k y)).map (·.2) = ys.map k := by rw [List.map_map]; rfl
  have := q (ys.map fun y => (y, k y)) p (by rw [e2, ← r2]; exact pm.map k) (fun z hz => ?_) (by rw [e2]; exact List.pairwise_map.mpr srt) hp
  · rw [e1] at this
    exact this
  · obtain ⟨y, hy, rfl⟩ := List.mem_map.mp hz
    exact r1 y (pm.mem_iff.mp hy)
section
variable {K : PySem.W.Frag} {σ : L2.St} {H : Hp} {te : TE}
theorem rows_im : ∀ {xs : List V} {cs : List (List Str)}, ImAll K H xs (cs.map fun c => .tuple (c.map .str)) → RowsR K H xs cs
  | _, [], h => by cases h; exact .nil
  | _, c :: cs, h => by
    cases h with
    | cons a b =>
      obtain ⟨t, ys, rfl, h1, h2⟩ := Im.tup_inv a
      obtain rfl := h2.strs
      exact .cons h1 (rows_im b)
theorem im_rows : ∀ {zs : List (V × List Str)}, (∀ z ∈ zs, ∃ t, z.1 = .ref t ∧ SqT K H t (z.2.map V.str)) → ImAll K H (zs.map (·.1)) ((zs.map (·.2)).map fun c => .tuple (c.map .str))
  | [], _ => .nil
  | z :: zs, h => by
    obtain ⟨t, e, s⟩ := h z List.mem_cons_self
    refine .cons ?_ (im_rows fun y hy => h y (List.mem_cons_of_mem _ hy))
    show Im K H z.1 (.tuple (z.2.map .str))
    rw [e]
    exact Im.tup s (ImAll.of_strs _)
theorem ev_sortR {cs : List (List Str)} (h : Ev te σ H (oQ K (cs.map fun c => .tuple (c.map .str)))) (em : (∀ c ∈ cs, c ≠ []) ∨ ∃ r, cs = [] :: r) :
    Ev (tCB (rSortR K) (tCons te tNil)) σ H (oE (fun ds : List (List Str) => ds.Perm cs ∧ ds.Pairwise fun x y => ltT y x = false) fun ds => oN K H (ds.map fun c => .tuple (c.map .str))) := ev_cb (eva_cons h eva_nil) fun vs H1 s p Q q => by
  obtain ⟨v, rfl, pp⟩ := oall1 p
  obtain ⟨a, xs, rfl, h1, h2⟩ := SqAt.sq pp
  refine ⟨a, xs, cs, rfl, h1, rows_im h2, em, fun zs l pm hz srt hl => q _ _ (same_new hl) ⟨zs.map (·.2), ⟨pm, srt⟩, l, _, rfl, s.free hl, upd_same, ?_⟩⟩
  exact (im_rows hz).same (same_new hl)
end
end Cut
end
section
namespace Cut
open PySem PySem.Spec PyProof.Rows L2
/-! more rules -/
def rExtT (K : PySem.W.Frag) : V → List V → Hp → VK → Prop := fun x vs H Q => ∃ l b xs zs, x = .ref l ∧ vs = [.ref b] ∧ H l = some (.lst xs) ∧ SqT K H b zs ∧ xs.length + zs.length ≤ sizeLine ∧ Q .non (upd H l (.lst (xs ++ zs)))
theorem tup_of_raw {M : Type} {h : Heap} {b : Addr} {its : List Value} (p : h.IsTuple b its.toArray) : ∃ o n, h.get? b = some o ∧ o.cls = .type "tuple" ∧ o.data = .seq its.toArray n := by
  obtain ⟨o, e, c, n, d⟩ := p
  exact ⟨o, n, e, c, d⟩
theorem ext_tuple (l : Addr) (items : Array Value) (n : Nat) (b : Addr) (items2 : Array Value) (n2 : Nat) (dd : Option Addr) (sl : Array (Option Value)) (hs0 : ¬(!items.isEmpty && Builtin.List.listTooLong (items.size + items2.size)) = true) (hs1 : items.size ≤ sizeLine) (hs2 : items.size + items2.size ≤ sizeLine + 1) :
    Meets (Builtin.«list.extend» ⟨[.ref l, .ref b], []⟩) (fun _ R s => s.heap.get? l = some { cls := .type "list", dict := none, data := .seq items n, slots := #[] } ∧ s.heap.get? b = some { cls := .type "tuple", dict := dd, data := .seq items2 n2, slots := sl } ∧ R (.ok (.ret Value.none)) { s with heap := s.heap.update l (Obj.mapSeq fun x => x ++ items2), toks := s.toks }) :=
  .of_wp fun prog w A R s h => by
    obtain ⟨hp, g, d, tk, os⟩ := s
    obtain ⟨hl, hb, h⟩ := h
    have f1 := AutoSeq1.idx_int
    have f2 := AutoSeq1.sub_tuple_tuple
    have f3 := AutoSeq1.sub_list_list
    have f4 := AutoSeq1.sub_tuple_list
    have f5 := AutoSeq1.sub_list_tuple
    have hz : (items ++ items2).size ≤ sizeLine + 1 := by rw [Array.size_append]; exact hs2
    wp_walk using (wpAny_updateSeq hl rfl (hz := hs1) (_hz' := hz)), AutoSeq1.wpAny_loadPart' hl, AutoSeq1.wpAny_loadPart' hb
    exact ⟨_, rfl, h⟩
theorem mt_extendT {X : Cx} : MtM X "list.extend" (rExtT X.K) := by
  intro pins s σ H x vs v us Q I rx rv h
  obtain ⟨l, b, xs, zs, rfl, rfl, hH, hB, hz, q⟩ := h
  cases rx
  obtain ⟨u, rfl, ru⟩ := rv.one
  cases ru
  obtain ⟨z, its, n, r, hl, e⟩ := I.lstM hH
  obtain ⟨its2, r2, p2, z2⟩ := I.tuple hB
  have l2 := r2.length
  have p2 : s.heap.IsTuple b its2.toArray := p2
  obtain ⟨⟨c2, d2, t2, s2⟩, e2, hc, n2, hd⟩ := p2
  simp only at hc hd
  subst hc hd
  have sz : its.toArray.size + its2.toArray.size ≤ sizeLine := by rw [List.size_toArray, List.size_toArray]; omega
  have short : ¬ (!its.toArray.isEmpty && Builtin.List.listTooLong (its.toArray.size + its2.toArray.size)) = true := by
    rw [notLongL sz, Bool.and_false]
    exact Bool.false_ne_true
  refine call_meets F.slot_list_extend ⟨_, e, rfl⟩ F.entry_list_extend (F.args_list_extend_2 _ _) (ext_tuple l its.toArray n b its2.toArray n2 d2 s2 short (by rw [List.size_toArray]; omega) (by omega)) ⟨e, e2, ?_⟩
  refine ⟨.non, _, I.lset (its' := its ++ its2) hH e (by simp) (r.append r2) ?_, rfl, q⟩
  rw [List.length_append]
  omega
def rInDT (K : PySem.W.Frag) : R2 := fun x y H Q => ∃ d ds, Dp K H x d ∧ Dp K H y (.tuple ds) ∧ SeqAt.shaped d = true ∧ SeqAt.shaped (.tuple ds) = true ∧ Q (.bl (ds.any fun z => PyData.eqv z d)) H
theorem op_inDT {X : Cx} (hu : X.A.units + 65 < cLine) : OpR X (compareOp .In) (rInDT X.K) := by
  intro pins s σ H x y v u Q I rx ry h
  obtain ⟨d, ds, hd, he, sd, se, q⟩ := h
  obtain ⟨as, r1⟩ := Dp.reads I d x v hd rx
  obtain ⟨bs, r2⟩ := Dp.reads I (.tuple ds) y u he ry
  exact SeqAt.in_tuple_reads r2 r1 (SeqAt.canLay_of_shaped se) (SeqAt.canLay_of_shaped sd) (room_in_shaped sd hu) ⟨.bl _, H, I, rfl, q⟩
/-- a text so many times -/
def repS (x : Str) (n : Int) : Str := ⟨(List.replicate n.toNat x.cps).foldl (· ++ ·) #[]⟩
def rMulS : R2 := fun x y H Q => ∃ s n, x = .str s ∧ y = .int n ∧ 0 ≤ n ∧ n ≤ 1000 ∧ s.length ≤ 1000 ∧ Q (.str (repS s n)) H
theorem rep_one (x : Str) : repS x 1 = x := by
  unfold repS
  show (⟨#[] ++ x.cps⟩ : Str) = x
  rw [Array.empty_append]
theorem rep_len (x : Array Nat) : ∀ (n : Nat) (a : Array Nat), ((List.replicate n x).foldl (· ++ ·) a).size = a.size + n * x.size
  | 0, a => by simp
  | n + 1, a => by
    rw [List.replicate_succ, List.foldl_cons, rep_len x n, Array.size_append, Nat.succ_mul]
    omega
theorem op_mul_str {X : Cx} : OpR X (binaryOp .Mult) rMulS := by
  intro pins s σ H x y v u Q I rx ry h
  obtain ⟨z, n, rfl, rfl, h1, h2, h3, q⟩ := h
  obtain ⟨t, rfl⟩ := rx
  obtain ⟨t', rfl⟩ := ry
  have e1 : (decide (n < -(2 ^ 63 : Int)) || decide (n ≥ 2 ^ 63)) = false := by
    rw [decide_eq_false (by omega), decide_eq_false (by omega)]
    rfl
  have tot : z.length * n.toNat ≤ 1000 * 1000 := Nat.mul_le_mul h3 (by omega)
  refine P.mul_str e1 (fun pos _ => ?_) (fun _ _ => ?_) ?_
  · have : (1000 : Int) ≤ (2 ^ 63 - 1) / n := by
      rw [Int.le_ediv_iff_mul_le (by omega)]
      omega
    have : (z.length : Int) ≤ 1000 := by omega
    omega
  · unfold Builtin.Str.tooLong
    have ge : 1000 * 1000 ≤ sizeLine := by decide
    exact decide_eq_false (by omega)
  · by_cases n0 : n < 1
    · rw [if_pos n0]
      have e3 : repS z n = Str.empty := by
        have : n = 0 := by omega
        subst this
        rfl
      rw [e3] at q
      exact ⟨by decide, .str Str.empty, H, I.tok _, ⟨_, rfl⟩, q⟩
    rw [if_neg n0]
    by_cases e : (n == 1 || z.length == 0) = true
    · rw [if_pos e]
      have e2 : repS z n = z := by
        rw [Bool.or_eq_true] at e
        rcases e with e | e
        · have e : n = 1 := by simpa using e
          rw [e]
          exact rep_one z
        · have e : z.cps.size = 0 := by simpa [Str.length] using e
          have e0 : z.cps = #[] := Array.eq_empty_of_size_eq_zero e
          have : ((List.replicate n.toNat z.cps).foldl (· ++ ·) #[]).size = 0 := by
            rw [rep_len, e]
            simp
          unfold repS
          rw [Array.eq_empty_of_size_eq_zero this]
          cases z with
          | mk cps =>
            have e0 : cps = #[] := e0
            rw [e0]
      rw [e2] at q
      exact ⟨.str z, H, I, ⟨t, rfl⟩, q⟩
    · rw [if_neg e]
      refine ⟨?_, .str (repS z n), H, I.tok _, ⟨_, rfl⟩, q⟩
      show (repS z n).length ≤ _
      unfold repS Str.length
      rw [rep_len]
      have : n.toNat * z.cps.size ≤ 1000 * 1000 := Nat.mul_le_mul (by omega) h3
      refine Nat.le_trans (Nat.le_trans (show (#[] : Array Nat).size + n.toNat * z.cps.size ≤ 1000 * 1000 by simpa using this) ?_) (Nat.le_refl _)
      decide
end Cut
end
section
namespace Cut
open PySem PySem.Spec PyProof.Rows L2
/-! set(names), each once -/
theorem take_any {xs : List Str} (nd : xs.Nodup) {i : Nat} (h : i < xs.length) : ((xs.take i).any (· == xs[i])) = false := by
  cases hb : (xs.take i).any (· == xs[i]) with
  | false => rfl
  | true =>
    obtain ⟨y, hy, ey⟩ := List.any_eq_true.mp hb
    have ey : y = xs[i] := by simpa using ey
    subst ey
    obtain ⟨j, hj, e⟩ := List.mem_iff_getElem.mp hy
    rw [List.length_take] at hj
    rw [List.getElem_take] at e
    have := (List.getElem_inj nd).mp e
    omega
section
variable {prog : Program} {w : World} {A : Around} {R : Result → Shared → Prop} {I : Addr} {fp wr : List Addr} {G : Array GenState → Array GenState → Prop} {n : Nat} {P : Nat → Value → Prop} {St : Nat → Shared → Prop}
theorem set_loop (W : WalksS prog w A.in1 I fp wr G n P St) (S : Addr) (hS : S ∉ fp) (xs : List Str) (ln : xs.length = n) (nd : xs.Nodup) (room : n + 1 < scanBound) (val : ∀ i v, P i v → ∃ t, v = .str (xs.getD i Str.empty) t) :
    ∀ (k i : Nat) (s : Shared), n - i = k → i ≤ n → St i s → s.heap.SetOf (PySem.strKind prog w) S (fun j => (xs.take i).any (· == j)) i →
      (∀ s', Moved (S :: wr) G s s' → s'.heap.SetOf (PySem.strKind prog w) S (fun j => (xs.take n).any (· == j)) n → R (.ok (.ret .none)) s') →
      codeAny (model prog w) A (.builtin "set.update.loop" ⟨[.ref S, .ref I], []⟩) R s := by
  have out : S ∉ wr := fun h => hS (W.sub _ h)
  have sub : ∀ b ∈ wr, b ∈ S :: wr := fun b hb => List.mem_cons_of_mem _ hb
  intro k
  induction k with
  | zero =>
    intro i s hk hi st so q
    obtain rfl : i = n := by omega
    refine codeAny_builtin PyProof.Rows.F.entry_set_update_loop ?_
    rw [Around.under_plainId PyProof.Rows.F.plain_set_update_loop _]
    show wpAny _ A.in1 (pyNext (.ref I) >>= _) _ _ s
    refine wpAny_bind (W.done s _ _ st fun s2 mv => ?_)
    show wpAny _ A.in1 (ret Value.none) _ _ s2
    refine wpAny_pure (q s2 (mv.mono sub) ?_)
    obtain ⟨o, es, ep, t, ho, rest⟩ := so
    exact ⟨o, es, ep, t, mv.heap S _ out ho, rest⟩
  | succ k ih =>
    intro i s hk hi st so q
    have lt : i < n := by omega
    refine codeAny_builtin PyProof.Rows.F.entry_set_update_loop ?_
    rw [Around.under_plainId PyProof.Rows.F.plain_set_update_loop _]
    show wpAny _ A.in1 (pyNext (.ref I) >>= _) _ _ s
    refine wpAny_bind (W.item i s _ _ lt st fun v s2 pv st2 mv => ?_)
    obtain ⟨t, rfl⟩ := val i v pv
    have so2 : s2.heap.SetOf (PySem.strKind prog w) S (fun j => (xs.take i).any (· == j)) i := by
      obtain ⟨o, es, ep, tb, ho, rest⟩ := so
      exact ⟨o, es, ep, tb, mv.heap S _ out ho, rest⟩
    show wpAny _ A.in1 (holding [Value.str (xs.getD i Str.empty) t] (setAdd S (.str (xs.getD i Str.empty) t)) >>= _) _ _ s2
    refine wpAny_bind (wpAny_holding ?_)
    unfold setAdd
    refine wpAny_holding ?_
    refine wpAny_bind ((PySem.strKind prog w).pyHash (k := xs.getD i Str.empty) (strKind_is _ _ _ _) ?_)
    refine wpAny_setAddHashed_of (knd := PySem.strKind prog w) (s := { s2 with toks := s2.toks + 1 }) (strKind_is _ _ _ _) rfl so2 (by omega) fun h2 sb so3 => ?_
    have lx : i < xs.length := by omega
    have gx : xs.getD i Str.empty = xs[i] := by simp [lx]
    have so4 : h2.SetOf (PySem.strKind prog w) S (fun j => (xs.take (i + 1)).any (· == j)) (i + 1) := by
      refine SetOf_congr so3 (fun j => ?_) ?_
      · rw [List.take_add_one, List.getElem?_eq_getElem lx, List.any_append, gx]
        congr 1
        show decide (j = xs[i]) = ((xs[i] == j) || false)
        rw [Bool.or_false]
        by_cases e : j = xs[i]
        · rw [decide_eq_true e, e]; simp
        · rw [decide_eq_false e]
          have : ¬ xs[i] = j := fun z => e z.symm
          simp [this]
      · rw [gx, take_any nd lx]
        rfl
    refine wpAny_pure ⟨plainId_quiet PyProof.Rows.F.plain_set_update_loop _, ih (i + 1) _ (by omega) lt (W.frame _ s2 _ _ st2 (Nat.le_succ _) fun b hb o e => ?_) so4 fun s3 mv3 so5 => ?_⟩
    · rw [sb.2 b (fun z : b = S => hS (by rw [← z]; exact hb))]
      exact e
    · refine q s3 (Moved.trans W.gtrans ((mv.mono sub).then_heap (Nat.le_succ _) fun b o hb e => ?_) mv3) so5
      rw [sb.2 b (fun z : b = S => hb (by rw [z]; exact List.mem_cons_self))]
      exact e
end
section
variable {prog : Program} {w : World} {A : Around} {E : Value → Shared → Prop} {s : Shared}
set_option maxHeartbeats 4000000 in
theorem set_texts {l : Addr} {items : Array Value} {xs : List Str} {Q : Value → Shared → Prop} (hh : A.handled = none) (hl : s.heap.IsList l items) (hi : StrsAre items.toList xs) (nd : xs.Nodup) (room : xs.length + 1 < scanBound)
    (q : ∀ (h' : Heap) (tk : Nat), h'.SetOf (PySem.strKind prog w) s.heap.objs.size (fun j => (xs.take items.size).any (· == j)) items.size → (∀ b o, b < s.heap.objs.size → s.heap.get? b = some o → h'.get? b = some o) → Q (.ref s.heap.objs.size) { s with heap := h', toks := tk }) :
    wpAny (model prog w) A (call (.type "set") [.ref l]) Q E s := by
  obtain ⟨c, tl, hmro⟩ := PySem.F.called_set.mro
  have hmade := PySem.F.called_set.made
  have hsub := PySem.F.called_set.sub
  refine wpAny_call (codeAny_of_tree ?_)
  show wpAny _ _ (callAny (.type "set") _) _ _ _
  refine wpAny_pure ⟨Code.quiet_builtin _ (by decide +kernel), codeAny_builtin PySem.F.entry_type_call ?_⟩
  rw [Around.under_plain (weight_type_call_type "set" [.ref l] []) rfl]
  have h1 := PySem.F.called_set.notType
  have h2 := PySem.F.called_set.canCreate
  have hct := PySem.F.typeCall_set_1 (.ref l)
  repeat (any_goals (first | assumption | wp_step))
  refine codeAny_mono (code_set_new_1 (.ref l) (E := E) (Q₁ := fun obj s1 => ∃ led : Bool, obj = .ref s.heap.objs.size ∧ s1 = { s with heap := s.heap.push { cls := .type "set", dict := none, data := .set #[] 0 (.fresh 0 0 led) } }) fun led => ⟨led, rfl, rfl⟩) fun r s1 hr => ?_
  cases r with
  | error e => exact hr
  | ok fl =>
    cases fl with
    | ret obj =>
      obtain ⟨led, rfl, rfl⟩ := hr
      have hS : (s.heap.push { cls := .type "set", dict := none, data := .set #[] 0 (.fresh 0 0 led) }).get? s.heap.objs.size = some { cls := .type "set", dict := none, data := .set #[] 0 (.fresh 0 0 led) } := Heap.get?_push_size _ rfl
      have hT : Shared.TypeIs { s with heap := s.heap.push { cls := .type "set", dict := none, data := .set #[] 0 (.fresh 0 0 led) } } (.ref s.heap.objs.size) "set" := ⟨_, hS, rfl⟩
      have hli := PySem.F.called_set.init.lookup
      have hbi := PySem.F.called_set.init.bind (.ref s.heap.objs.size)
      repeat (any_goals (first | assumption | wp_step))
      refine codeAny_mono (codeAny_call_builtin (R := wants (fun r s2 => r = .none ∧ ∃ h' tk, s2 = { s with heap := h', toks := tk } ∧ h'.SetOf (PySem.strKind prog w) s.heap.objs.size (fun j => (xs.take items.size).any (· == j)) items.size ∧
          (∀ b o, b < s.heap.objs.size → s.heap.get? b = some o → h'.get? b = some o)) E) PySem.F.called_set.init.plain PySem.F.entry_set_init (check_set_init_1 hT ?_)) fun r2 s2 hr2 => ?_
      · obtain ⟨ol, hol, hcl, nl, hdl⟩ := hl
        obtain ⟨ocls, odict, odata, oslots⟩ := ol
        simp only at hcl hdl
        subst hcl
        subst hdl
        have hol2 : (s.heap.push { cls := .type "set", dict := none, data := .set #[] 0 (.fresh 0 0 led) }).get? l = some { cls := .type "list", dict := odict, data := .seq items nl, slots := oslots } := Heap.get?_push_of_some _ hol
        have hsls := PySem.F.sub_list_set
        have hslf := PySem.F.sub_list_frozenset
        have hne : (Value.type "list" == Value.type "dict") = false := by decide
        have hl1 : (s.heap.push { cls := .type "set", dict := none, data := .set #[] 0 (.fresh 0 0 led) }).IsList l items := ⟨_, hol2, rfl, nl, rfl⟩
        unfold Builtin.«set.__init__» noKeywords Builtin.Frozenset.updateFrom
        generalize hPI : pyIter = PI
        wp_walk
        subst hPI
        refine wpAny_pyIter_list hl1 ?_
        refine wpAny_bind (wpAny_runValue ?_)
        have lS : l < s.heap.objs.size := Heap.lt_size hol
        have hh3 : A.in1.in1.in1.handled = none := by simp [hh]
        have sz1 : (s.heap.push { cls := .type "set", dict := none, data := .set #[] 0 (.fresh 0 0 led) }).objs.size = s.heap.objs.size + 1 := Heap.size_push ..
        have neI : l ≠ (s.heap.push { cls := .type "set", dict := none, data := .set #[] 0 (.fresh 0 0 led) }).objs.size := by
          rw [sz1]
          exact Nat.ne_of_lt (Nat.lt_succ_of_lt lS)
        have nS : s.heap.objs.size ∉ [(s.heap.push { cls := .type "set", dict := none, data := .set #[] 0 (.fresh 0 0 led) }).objs.size, l] := fun z => by
          rw [sz1] at z
          rcases List.mem_cons.mp z with z | z
          · exact absurd z (Nat.ne_of_lt (Nat.lt_succ_self _))
          · exact absurd (List.mem_singleton.mp z) (Nat.ne_of_gt lS)
        have ln : xs.length = items.size := by rw [← StrsAre.len_eq hi, Array.length_toList]
        have hval : ∀ (i : Nat) (v : Value), items[i]? = some v → ∃ t, v = .str (xs.getD i Str.empty) t := fun i v hv => SS.strs_at hi i v (by rw [Array.getElem?_toList]; exact hv)
        refine set_loop ((Walks.list hh3 _ l neI items).toS) s.heap.objs.size nS xs ln nd (by omega) hval (items.size - 0) 0 _ (by omega) (Nat.zero_le _) ⟨⟨_, Heap.get?_push_size _ rfl, rfl, rfl⟩, (hl1.push _)⟩ ?A0 ?A1
        case A0 =>
          have hget : ((s.heap.push { cls := .type "set", dict := none, data := .set #[] 0 (.fresh 0 0 led) }).push { cls := .type "list_iterator", data := .fields #[.ref l, .int 0 0] }).get? s.heap.objs.size = some { cls := .type "set", dict := none, data := .set #[] 0 (.fresh 0 0 led) } := Heap.get?_push_of_some _ hS
          exact PyProof.Rows.SetOf_congr ((PyProof.Rows.setObjOf_fresh (knd := PySem.strKind prog w) led).setOf hget (by unfold scanBound; omega)) (fun _ => rfl) rfl
        case A1 =>
          intro s3 mv so
          obtain ⟨h3, g3, d3, tk3, os3⟩ := s3
          have eg : g3 = s.gens := mv.gens
          have ed : d3 = s.drawn := mv.drawn
          have eo : os3 = s.os := mv.os
          subst eg
          subst ed
          subst eo
          show wpAny _ _ _ _ _ _
          refine wpAny_pure ?_
          show wpAny _ _ (ret Value.none) _ _ _
          refine wpAny_pure ⟨rfl, h3, tk3, rfl, so, fun b o hb e => ?_⟩
          have b1 : b ≠ s.heap.objs.size := Nat.ne_of_lt hb
          refine mv.heap b o (fun z => ?_) (Heap.get?_push_of_some _ (Heap.get?_push_of_some _ e))
          rcases List.mem_cons.mp z with z | z
          · exact b1 z
          · have z := List.mem_singleton.mp z
            rw [sz1] at z
            exact absurd z (Nat.ne_of_lt (Nat.lt_succ_of_lt hb))
      · cases r2 with
        | error e => exact hr2
        | ok fl2 =>
          cases fl2 with
          | ret r =>
            obtain ⟨rfl, h', tk, rfl, so, kp⟩ := hr2
            repeat (any_goals (first | assumption | wp_step))
            exact q _ _ so kp
          | _ => exact hr2.elim
    | _ => exact hr.elim
end
/-- the set of so many texts at a -/
def SetS (P : Program) (w : World) (a : Addr) (S : Str → Bool) (n : Nat) : HO := .ext fun h => h.SetOf (PySem.strKind P w) a S n
def rSetS (K : PySem.W.Frag) (P : Program) (w : World) : List V → Hp → VK → Prop := fun vs H Q => ∃ (a : Addr) (xs : List Str), vs = [.ref a] ∧ SqL K H a (xs.map V.str) ∧ xs.Nodup ∧ xs.length ≤ 1000 ∧ ∀ p S, H p = none → Q (.ref p) (upd H p (SetS P w p S xs.length))
theorem cr_set {X : Cx} (hc : X.calm = true) : CallR X (.type "set") (rSetS X.K X.prog X.w) := by
  intro pins s σ H vs us Q I r h
  obtain ⟨a, xs, rfl, hs, nd, hl, q⟩ := h
  obtain ⟨u, rfl, ru⟩ := vals1 r
  obtain rfl : u = Value.ref a := ru
  obtain ⟨its, rv, pl, _⟩ := I.list hs
  have ln : its.toArray.size = xs.length := by rw [List.size_toArray, ← rv.length, List.length_map]
  refine set_texts (I.ok.hd hc) pl.isList (by simpa using rv.strs) nd (by unfold scanBound; omega) fun h' tk so kp => ?_
  rw [ln] at so
  have ⟨o, _, _, _, ho, _⟩ := so
  have hk : ∀ b o, s.heap.get? b = some o → h'.get? b = some o := fun b o e => kp b o (Heap.lt_size e) e
  refine ⟨.ref _, upd H s.heap.objs.size (SetS X.prog X.w s.heap.objs.size _ xs.length), I.laid (t' := tk) hk (Nat.le_refl _) ⟨so, ⟨o, ho⟩, fun h1 h2 p k => ?_⟩, rfl, q _ _ (I.hok.fresh (Nat.le_refl _))⟩
  obtain ⟨o2, es, ep, t, ho2, r2⟩ := p
  exact ⟨o2, es, ep, t, k o2 ho2, r2⟩
def rLenSet (P : Program) (w : World) : List V → Hp → VK → Prop := fun vs H Q => ∃ (a : Addr) (S : Str → Bool) (n : Nat), vs = [.ref a] ∧ H a = some (SetS P w a S n) ∧ Q (.int (n : Nat)) H
theorem cr_lenSet {X : Cx} : CallR X (.builtin "len") (rLenSet X.prog X.w) := by
  intro pins s σ H vs us Q I r h
  obtain ⟨a, S, n, rfl, ha, q⟩ := h
  obtain ⟨u, rfl, ru⟩ := vals1 r
  obtain rfl : u = Value.ref a := ru
  obtain ⟨o, es, ep, t, ho, hex, hd, _, _, hb, hf, hn⟩ := (I.hok a _ ha).1
  have hb : es.size < scanBound := hb
  exact call_len_set ho hex hd hf (by unfold scanBound at hb; omega) ⟨.int n, H, I.tok _, ⟨_, by rw [hn]⟩, q⟩
end Cut
end
section
namespace Cut
open PySem PySem.Spec PyProof.Rows L2
local macro_rules | `(tactic| walk_at "nk") => `(tactic| first | dsimp only [cxOf, Cx.nox, Cx.wish, Cx.blk] | skip)
local macro_rules | `(tactic| walk_at "im") => `(tactic| first
  | assumption
  | exact Im.int _ | exact Im.str _ | exact Im.bl _ | exact Im.non
  | (refine Im.same (by assumption) ?_; walk_at "im"))
local macro_rules | `(tactic| walk_at "side") => `(tactic| first | assumption | rfl | omega)
local macro_rules | `(tactic| walk_at "ev") => `(tactic| first
  | (with_reducible exact ev_int) | (with_reducible exact ev_str) | (with_reducible exact ev_bl) | (with_reducible exact ev_non)
  | ((with_reducible apply ev_varI); rfl; walk_at "im")
  | ((with_reducible apply ev_ixT); walk_at "ev"; walk_at "ev"; walk_at "side")
  | ((with_reducible apply ev_add); walk_at "ev"; walk_at "ev")
  | ((with_reducible apply ev_sub); walk_at "ev"; walk_at "ev")
  | ((with_reducible apply ev_mul); walk_at "ev"; walk_at "ev"; walk_at "side")
  | ((with_reducible apply ev_div); walk_at "ev"; walk_at "ev"; walk_at "side")
  | ((with_reducible apply ev_mod); walk_at "ev"; walk_at "ev"; walk_at "side")
  | ((with_reducible apply ev_eqI); walk_at "ev"; walk_at "ev")
  | ((with_reducible apply ev_neI); walk_at "ev"; walk_at "ev")
  | ((with_reducible apply ev_eqS); walk_at "ev"; walk_at "ev")
  | ((with_reducible apply ev_neS); walk_at "ev"; walk_at "ev")
  | ((with_reducible apply ev_cmp); walk_at "ev"; walk_at "ev")
  | ((with_reducible apply ev_tup1); walk_at "ev")
  | ((with_reducible apply ev_tup2); walk_at "ev"; walk_at "ev")
  | ((with_reducible apply ev_tup3); walk_at "ev"; walk_at "ev"; walk_at "ev")
  | ((with_reducible apply ev_tup4); walk_at "ev"; walk_at "ev"; walk_at "ev"; walk_at "ev")
  | ((with_reducible apply ev_tup5); walk_at "ev"; walk_at "ev"; walk_at "ev"; walk_at "ev"; walk_at "ev")
  | ((with_reducible apply ev_lenT); walk_at "ev")
  | ((with_reducible apply ev_abs); walk_at "ev")
  | ((with_reducible apply ev_tupleL); walk_at "ev")
  | ((with_reducible apply ev_notV); walk_at "ev")
  | assumption)

/-! dict([(name, a new list) for name in names]) -/
/-- over what stays while only what is new is changed -/
def EvIS (K : PySem.W.Frag) (wi : TI) (σ : L2.St) (H : Hp) (ds : List PyData) : Prop :=
  ∀ H1, Same H H1 → ∀ R : It → Hp → Prop, (∀ J H2, Same H1 H2 → Walk J ds.length (fun H3 => Same H2 H3) (YD K ds) → R J H2) → wi σ H1 R
structure Row4 where
  t : Addr
  l : Addr
  n : Str
  ds : List PyData
structure RowOk (K : PySem.W.Frag) (B H : Hp) (rel : Str → List PyData → Prop) (r : Row4) : Prop where
  tp : SqT K H r.t [.str r.n, .ref r.l]
  ls : ∃ xs, H r.l = some (.lst xs) ∧ ImAll K H xs r.ds
  new : B r.l = none
  rl : rel r.n r.ds
theorem RowOk.same {K : PySem.W.Frag} {B H H' : Hp} {rel : Str → List PyData → Prop} {r : Row4} (h : RowOk K B H rel r) (s : Same H H') : RowOk K B H' rel r :=
  ⟨sqT_keep (tk_same s) h.tp, let ⟨xs, e, i⟩ := h.ls; ⟨xs, s _ _ e, i.same s⟩, h.new, h.rl⟩
structure RowsAt (K : PySem.W.Frag) (B H : Hp) (names : List Str) (rel : Str → List PyData → Prop) (D : Addr) (rows : List Row4) : Prop where
  at' : H D = some (.lst (rows.map fun r : Row4 => V.ref r.t))
  ok : ∀ r ∈ rows, RowOk K B H rel r
  nm : rows.map Row4.n = names
  nd : (rows.map Row4.l).Nodup
def oRows (K : PySem.W.Frag) (B : Hp) (names : List Str) (rel : Str → List PyData → Prop) : Ob :=
  ⟨fun v H => ∃ D rows, v = .ref D ∧ RowsAt K B H names rel D rows, fun _ _ _ s ⟨D, rows, e, h⟩ => ⟨D, rows, e, s _ _ h.at', fun r hr => (h.ok r hr).same s, h.nm, h.nd⟩⟩
/-- a dict of lists that are ours, one by each name -/
def oDr (K : PySem.W.Frag) (B : Hp) (names : List Str) (rel : Str → List PyData → Prop) : Ob :=
  ⟨fun v H => ∃ d kvs R, v = .ref d ∧ B d = none ∧ DictM K B H d R kvs ∧ (∀ x ∈ names, (valV kvs (.inr x)).isSome = true ∧ rel x (R x)) ∧ (∀ x, x ∉ names → R x = []) ∧ kvs.length = names.length,
    fun _ _ _ s ⟨d, kvs, R, e, n, h, r⟩ => ⟨d, kvs, R, e, n, h.same s, r⟩⟩
section
variable {K : PySem.W.Frag} {σ : L2.St} {H H' : Hp} {te td ty ta : TE} {wi : TI} {ds : List PyData} {D : Ends} {tz : TS}
theorem evi_s (h : EvI K wi σ H ds) : EvIS K wi σ H ds := fun H1 s R q => h H1 s R fun J H2 s2 w => q J H2 s2 (w.mono (fun _ k => tk_same k) fun _ _ _ _ _ _ y => y)
theorem evi_sL (h : EvIL K wi σ H ds) : EvIS K wi σ H ds := fun H1 s R q => h H1 s R fun J a xs H2 s2 e w => q J H2 s2 (w.mono (fun _ k => ⟨tk_same k, k _ _ e⟩) fun _ _ _ _ _ _ y => y)
theorem ev_rows {vs : List Nat} {i : Nat} (names : List Str) (hl : names.length ≤ 1000) (hi : EvIS K wi σ H (names.map .str)) (rel : Str → List PyData → Prop) (w1 : ∀ v, wipe ((wipe σ vs).set i (some v)) vs = wipe σ vs) (w2 : ∀ v, ((wipe σ vs).set i (some v))[i]? = some (some v))
    (k : ∀ x H1, x ∈ names → Same H H1 → Ev te ((wipe σ vs).set i (some (.str x))) H1 (oE (rel x) fun ds => oN K H1 ds)) : Ev (tLc wi (gName i) tYes (tTup (tCons (tVar i) (tCons te tNil))) vs) σ H (oRows K H names rel) := fun H0 s0 Q q =>
  hi H0 s0 _ fun J H1 s1 w Dl hD => by
    have s01 := s0.trans s1
    refine lc_it w (fun i H' => Same H1 H' ∧ ∃ rows : List Row4, H' Dl = some (.lst (rows.map fun r => V.ref r.t)) ∧ (∀ r ∈ rows, RowOk K H H' rel r ∧ r.l ≠ Dl) ∧ rows.map (·.n) = names.take i ∧ (rows.map (·.l)).Nodup)
      ⟨same_new hD, [], upd_same, fun r h => absurd h (by simp), rfl, by simp⟩ (fun i H' _ p => p.1) (fun j x H2 H3 hj p y => ?_) fun H' p => ?_
    · obtain ⟨p1, rows, p2, p3, p4, p5⟩ := p
      obtain ⟨y1, d, hd, y2⟩ := y
      obtain ⟨n, hn, rfl, hm⟩ := get_map hd
      obtain rfl := Im.str_inv y2
      refine ⟨w1 _, ?_⟩
      unfold tYes
      dsimp only
      rw [if_pos rfl]
      have s03 := (s01.trans p1).trans y1
      refine ⟨_, w2 _, ?_⟩
      refine k n H3 hm s03 H3 (Same.refl _) _ fun u H4 s4 p6 => ?_
      obtain ⟨es, he, l, xs, rfl, nl, el, il⟩ := p6
      refine ⟨(by decide : 2 ≤ sizeLine), fun t ht => ?_⟩
      have s5 := same_new (o := .tup [V.str n, V.ref l]) ht
      have e2 := s5 _ _ (s4 _ _ (y1 _ _ p2))
      have lr : rows.length ≤ 1000 := by
        have := congrArg List.length p4
        rw [List.length_map, List.length_take] at this
        omega
      have nlD : l ≠ Dl := fun z => by
        rw [z, y1 _ _ p2] at nl
        cases nl
      have nold : ∀ r ∈ rows, r.l ≠ l := fun r hr z => by
        obtain ⟨xs, e, _⟩ := (p3 r hr).1.ls
        rw [z] at e
        rw [y1 _ _ e] at nl
        cases nl
      refine ⟨_, e2, by rw [List.length_map]; exact sz_lt (by omega), same_mut (((p1.trans y1).trans s4).trans s5) hD, rows ++ [⟨t, l, n, es⟩], ?_, fun r hr => ?_, ?_, ?_⟩
      · rw [upd_same, List.map_append]
        rfl
      · have kk : TupKeep (upd H4 t (.tup [V.str n, V.ref l])) (upd (upd H4 t (.tup [V.str n, V.ref l])) Dl (.lst ((rows.map fun r : Row4 => V.ref r.t) ++ [.ref t]))) := tk_upd e2 trivial
        have go : ∀ r : Row4, RowOk K H (upd H4 t (.tup [V.str n, V.ref l])) rel r → r.l ≠ Dl → RowOk K H (upd (upd H4 t (.tup [V.str n, V.ref l])) Dl (.lst ((rows.map fun r : Row4 => V.ref r.t) ++ [.ref t]))) rel r := fun r ok ne =>
          ⟨sqT_keep kk ok.tp, let ⟨xs, e, i⟩ := ok.ls; ⟨xs, by rw [upd_ne ne]; exact e, i.keep kk⟩, ok.new, ok.rl⟩
        rcases List.mem_append.mp hr with z | z
        · exact ⟨go r ((p3 r z).1.same ((y1.trans s4).trans s5)) (p3 r z).2, (p3 r z).2⟩
        · rw [List.mem_singleton.mp z]
          refine ⟨go _ ⟨SqT.of upd_same, ⟨xs, s5 _ _ el, il.same s5⟩, s03.free nl, he⟩ nlD, nlD⟩
      · rw [List.map_append, p4, List.take_add_one, hn]
        rfl
      · rw [List.map_append]
        refine List.nodup_append.mpr ⟨p5, by simp, fun a ha b hb e => ?_⟩
        obtain ⟨r, hr, rfl⟩ := List.mem_map.mp ha
        have hb : b = l := by simpa using hb
        exact nold r hr (e.trans hb)
    · obtain ⟨p1, rows, p2, p3, p4, p5⟩ := p
      rw [List.length_map, List.take_length] at p4
      exact q _ H' (s1.trans p1) ⟨Dl, rows, rfl, p2, fun r hr => (p3 r hr).1, p4, p5⟩
theorem merge_new : ∀ (more acc : List (Key × V)), ((acc ++ more).map (·.1)).Nodup → mergeK acc more = acc ++ more
  | [], acc, _ => by
    show acc = acc ++ []
    rw [List.append_nil]
  | kv :: more, acc, h => by
    have hn : valV acc kv.1 = none := by
      cases e : valV acc kv.1 with
      | none => rfl
      | some v =>
        exfalso
        rw [List.map_append, List.map_cons] at h
        have dis := (List.nodup_append.mp h).2.2
        unfold valV at e
        cases f : acc.find? (fun z => decide (z.1 = kv.1)) with
        | none => rw [f] at e; cases e
        | some z =>
          have hz := List.find?_some f
          have hm := List.mem_of_find?_eq_some f
          exact dis z.1 (List.mem_map.mpr ⟨z, hm, rfl⟩) kv.1 List.mem_cons_self (of_decide_eq_true hz)
    show mergeK (putK acc kv.1 kv.2) more = _
    rw [putK_new _ hn, merge_new more (acc ++ [(kv.1, kv.2)]) (by rw [List.append_assoc]; exact h), List.append_assoc]
    rfl
theorem ev_dictR {names : List Str} {rel : Str → List PyData → Prop} (nd : names.Nodup) (h : Ev te σ H (oRows K H names rel)) : Ev (tCB (rDictP K) (tCons te tNil)) σ H (oDr K H names rel) := ev_cb (eva_cons h eva_nil) fun vs H1 s p Q q => by
  obtain ⟨v, rfl, Dl, rows, rfl, e1, ok, en, ndl⟩ := oall1 p
  let kvs : List (Key × V) := rows.map fun r => (.inr r.n, .ref r.l)
  have ek : kvs.map (·.1) = names.map Sum.inr := by
    rw [← en, List.map_map, List.map_map]
    rfl
  have ndk : (kvs.map (·.1)).Nodup := by
    rw [ek]
    exact List.pairwise_map.mpr (nd.imp fun ne z => ne (Sum.inr.inj z))
  have em : mergeK [] kvs = kvs := merge_new kvs [] (by simpa using ndk)
  refine ⟨Dl, rows.map (·.t), kvs, rfl, SqL.of (by rw [List.map_map]; exact e1), ?_, fun d hd => ?_⟩
  · have pr : ∀ rs : List Row4, (∀ r ∈ rs, RowOk K H H1 rel r) → Paired (fun p kv => SqT K H1 p [kV kv.1, kv.2]) (rs.map (·.t)) (rs.map fun r => ((.inr r.n : Key), V.ref r.l)) := fun rs => by
      induction rs with
      | nil => exact fun _ => .nil
      | cons r rs ih => exact fun h => .cons (h r List.mem_cons_self).tp (ih fun r hr => h r (List.mem_cons_of_mem _ hr))
    exact pr rows ok
  · rw [em]
    have sd := same_new (o := .dK kvs) hd
    have fv : ∀ x, valV kvs (.inr x) = (rows.find? fun r => decide (r.n = x)).map fun r => V.ref r.l := fun x => by
      unfold valV
      rw [List.find?_map, Option.map_map]
      have e : ((fun kv : Key × V => decide (kv.1 = .inr x)) ∘ fun r : Row4 => ((.inr r.n : Key), V.ref r.l)) = fun r => decide (r.n = x) := by
        funext r
        show decide ((.inr r.n : Key) = .inr x) = _
        exact decide_eq_decide.mpr ⟨fun z => Sum.inr.inj z, fun z => by rw [z]⟩
      rw [e]
      rfl
    let R : Str → List PyData := fun x => ((rows.find? fun r => decide (r.n = x)).map (·.ds)).getD []
    have fo : ∀ {x r}, rows.find? (fun r => decide (r.n = x)) = some r → r ∈ rows ∧ r.n = x := fun {x r} e => ⟨List.mem_of_find?_eq_some e, of_decide_eq_true (List.find?_some (p := fun r : Row4 => decide (r.n = x)) e)⟩
    refine q _ _ sd ⟨d, kvs, R, rfl, s.free hd, ⟨⟨upd_same, fun x => ?_⟩, fun x v hv => ?_, fun x y v hx hy => ?_⟩, fun x hx => ?_, fun x hx => ?_, ?_⟩
    · rw [fv]
      show match (rows.find? fun r => decide (r.n = x)).map fun r => V.ref r.l with
        | none => ((rows.find? fun r => decide (r.n = x)).map (·.ds)).getD [] = []
        | some v => LsAt K _ v (((rows.find? fun r => decide (r.n = x)).map (·.ds)).getD [])
      cases f : rows.find? fun r => decide (r.n = x) with
      | none => rfl
      | some r =>
        obtain ⟨xs, e, i⟩ := (ok r (fo f).1).ls
        exact ⟨r.l, xs, rfl, sd _ _ e, i.same sd⟩
    · rw [fv] at hv
      cases f : rows.find? fun r => decide (r.n = x) with
      | none => rw [f] at hv; cases hv
      | some r =>
        rw [f] at hv
        exact ⟨r.l, (Option.some.inj hv).symm, (ok r (fo f).1).new⟩
    · rw [fv] at hx hy
      cases f : rows.find? fun r => decide (r.n = x) with
      | none => rw [f] at hx; cases hx
      | some r =>
        cases g : rows.find? fun r => decide (r.n = y) with
        | none => rw [g] at hy; cases hy
        | some r' =>
          rw [f] at hx
          rw [g] at hy
          have z : r.l = r'.l := V.ref.inj ((Option.some.inj hx).trans (Option.some.inj hy).symm)
          have er : r = r' := by
            obtain ⟨i, hi, ei⟩ := List.mem_iff_getElem.mp (fo f).1
            obtain ⟨j, hj, ej⟩ := List.mem_iff_getElem.mp (fo g).1
            have : i = j := by
              have h1 : (rows.map (·.l))[i]? = some r.l := by rw [List.getElem?_map, List.getElem?_eq_getElem hi, ei]; rfl
              have h2 : (rows.map (·.l))[j]? = some r.l := by rw [List.getElem?_map, List.getElem?_eq_getElem hj, ej, z]; rfl
              exact nodup_at ndl h1 h2
            subst this
            exact ei.symm.trans ej
          rw [← (fo f).2, er, (fo g).2]
    · rw [fv]
      have hx' : x ∈ rows.map (·.n) := by rw [en]; exact hx
      obtain ⟨r, hr, er⟩ := List.mem_map.mp hx'
      show ((rows.find? fun r => decide (r.n = x)).map fun r => V.ref r.l).isSome = true ∧ rel x (((rows.find? fun r => decide (r.n = x)).map (·.ds)).getD [])
      cases f : rows.find? fun r => decide (r.n = x) with
      | none =>
        have := List.find?_eq_none.mp f r hr
        rw [decide_eq_true er] at this
        exact absurd rfl this
      | some r' =>
        refine ⟨rfl, ?_⟩
        show rel x r'.ds
        rw [← (fo f).2]
        exact (ok r' (fo f).1).rl
    · show ((rows.find? fun r => decide (r.n = x)).map (·.ds)).getD [] = []
      cases f : rows.find? fun r => decide (r.n = x) with
      | none => rfl
      | some r' =>
        exact absurd (by rw [← en, ← (fo f).2]; exact List.mem_map.mpr ⟨r', (fo f).1, rfl⟩) hx
    · show (rows.map _).length = names.length
      rw [List.length_map, ← en, List.length_map]
/-- d[x].append(e) -/
theorem s_appAt {B : Hp} {d : Addr} {R : Str → List PyData} {kvs : List (Key × V)} {x : Str} {e : PyData} (M : DictM K B H d R kvs) (hx : (valV kvs (.inr x)).isSome = true) (sB : Same B H) (hlen : (R x).length < 100000)
    (hd : Ev td σ H (oV (.ref d))) (hy : Ev ty σ H (oI K (.str x))) (he : Ev te σ H (oI K e))
    (k : ∀ H', Same B H' → TupKeep H H' → DictM K B H' d (addAt R x e) kvs → D.nx σ H') : tDrop (tBM K "list" rAppend (tDGet td ty) (tCons te tNil)) D σ H := by
  refine hd H (Same.refl H) _ fun v H1 s1 e1 => ?_
  obtain rfl : v = .ref d := e1
  refine hy H1 s1 _ fun y H2 s2 p2 => ?_
  obtain rfl := Im.str_inv p2
  have s02 := s1.trans s2
  cases hv : valV kvs (.inr x) with
  | none => rw [hv] at hx; cases hx
  | some w =>
    obtain ⟨l, rfl, nl⟩ := M.new x w hv
    have M2 := M.same s02
    have L := M2.l.2 x
    rw [hv] at L
    obtain ⟨l', xs, el, hl, hi⟩ := L
    cases el
    refine ⟨d, .ref l, rfl, by rw [← hv]; exact DGet.k (k := .inr x) M2.l.1, ?_⟩
    refine ⟨.inl ⟨rfl, _, SqL.of hl⟩, ?_⟩
    refine he H2 s02 _ fun u H4 s4 p4 => ?_
    refine ⟨l, xs, u, rfl, rfl, s4 _ _ hl, by rw [hi.length]; exact sz_lt hlen, ?_⟩
    have k5 : TupKeep H4 (upd H4 l (.lst (xs ++ [u]))) := tk_upd (s4 _ _ hl) trivial
    have dl : d ≠ l := ne_of M2.l.1 hl (by intro q; cases q)
    have M4 := M2.same s4
    refine k _ (same_mut ((sB.trans s02).trans s4) nl) ((tk_same (s02.trans s4)).trans k5) ⟨⟨by rw [upd_ne dl]; exact M4.l.1, fun y => ?_⟩, M2.new, M2.inj⟩
    by_cases hy : y = x
    · subst hy
      rw [hv]
      show LsAt K _ (V.ref l) (addAt R y e y)
      unfold addAt
      rw [if_pos rfl]
      exact ⟨l, _, rfl, upd_same, ((hi.same s4).keep k5).snoc (Im.keep k5 p4)⟩
    · have L2 := M4.l.2 y
      cases q : valV kvs (.inr y) with
      | none =>
        rw [q] at L2
        show addAt R x e y = []
        unfold addAt
        rw [if_neg hy]
        exact L2
      | some w2 =>
        rw [q] at L2
        show LsAt K _ w2 (addAt R x e y)
        unfold addAt
        rw [if_neg hy]
        refine lsat_upd L2 (s4 _ _ hl) trivial fun q2 => ?_
        subst q2
        exact hy (M2.inj y x _ q hv)
end
/-- what the dict of ways holds at x -/
def wlD (ways : List (Str × Str)) (x : Str) : List PyData := (ways.filter fun p => decide (p.1 = x)).map fun p => .str p.2
theorem wl_add (ways : List (Str × Str)) (x y : Str) : addAt (wlD ways) x (.str y) = wlD (ways ++ [(x, y)]) := by
  funext z
  unfold addAt wlD
  rw [List.filter_append, List.map_append, List.filter_cons]
  by_cases h : z = x
  · rw [if_pos h, if_pos (decide_eq_true h.symm), h]
    rfl
  · rw [if_neg h, if_neg (by rw [decide_eq_false fun q => h q.symm]; decide)]
    simp
theorem wl_len (ways : List (Str × Str)) (x : Str) : (wlD ways x).length ≤ ways.length := by
  unfold wlD
  rw [List.length_map]
  exact List.length_filter_le _ _
/-- a dict of lists by names -/
def oDk (K : PySem.W.Frag) (names : List Str) (R : Str → List PyData) : Ob :=
  ⟨fun v H => ∃ d kvs, v = .ref d ∧ DictL K H d R kvs ∧ ∀ x ∈ names, (valV kvs (.inr x)).isSome = true, fun _ _ _ s ⟨d, kvs, e, h, r⟩ => ⟨d, kvs, e, h.same s, r⟩⟩
section
variable {P : Program} {w : World} {K : PySem.W.Frag} {mg : Str → Option Value} {base : Heap}
def sp_ways_left (K : PySem.W.Frag) : Sp := spD (α := Wls) (fun a => [oI K (webD a.W), oI K (frD a.L), oI K (streamD a.L.2 a.s)]) Wls.Ok fun a => oDk K a.W.names (wlD a.ways)
theorem at_ways_left (T : Tx K mg) : At P w K mg base 6 "ways_left" ["web", "price", "stream"] (sp_ways_left K) := by
  refine at_of T.d_ways_left sc_ways_left (fun _ => rfl) fun f cdv A outer s H vs Q E a hr hp ha q => ?_
  refine ⟨_, (pss_cons (ps_set (i := 3) sc_ways_left.nd rfl (Or.inl rfl) (pe_callTy (r := rDictP K) (cr_dictP rfl) (by rfl) T.m_dict (by decide +kernel) (pa_cons (pe_lc rfl sc_ways_left.nd (show PI _ _ _ (iTup K _) from pi_tup (pe_at (at_names_of T) (hr.mono (by decide)) (by rfl) (pa_cons (pv 0) pa_nil))) (blkOk_by (N := N_ways_left) (sc := defScope s_ways_left) (own := [("name", 4)]) (by decide +kernel)) (fun _ _ _ _ _ => (pg_name (i := 4) sc_ways_left.nd rfl (Or.inl rfl))) (fun _ _ _ _ _ => pts_nil) (fun _ _ _ _ _ => (pe_tup (pa_cons (pv 4) (pa_cons (pe_lst pa_nil) pa_nil))))) pa_nil)))
 (pss_cons (ps_for PassesOwn.never rfl (show PI _ _ _ (iZip3 K _) from pi_zip3 (by rfl) T.m_zip (pa_cons (pe_ix (r := rIxT K) ix_tup (pv 0) pe_int (fun _ _ => rfl)) (pa_cons (pe_ix (r := rIxT K) ix_tup (pe_at (at_sizes_at T) (hr.mono (by decide)) (by rfl) (pa_cons (pv 0) (pa_cons (pv 1) pa_nil))) pe_int (fun _ _ => rfl)) (pa_cons (pe_ix (r := rIxT K) ix_tup (pv 2) pe_int (fun _ _ => rfl)) pa_nil)))) (show PG _ _ (gTup K 3 _) from pg_tup rfl (pgs_cons (pg_name (i := 5) sc_ways_left.nd rfl (Or.inl rfl)) (pgs_cons (pg_name (i := 6) sc_ways_left.nd rfl (Or.inl rfl)) (pgs_cons (pg_name (i := 7) sc_ways_left.nd rfl (Or.inl rfl)) pgs_nil)))) (pss_cons (ps_if (pt_val (pe_at (at_below T) (hr.mono (by decide)) (by rfl) (pa_cons (pv 7) (pa_cons (pv 6) pa_nil)))) (pss_one (ps_expr (pe_bm PySem.F.plainAttrs_list PySem.F.slot_list_append PySem.F.type_list_append mt_append (pe_dget (hu_of hr) (pv 3) (pe_ix (r := rIxT K) ix_tup (pv 5) pe_int (fun _ _ => rfl)) (fun _ _ => rfl)) (pa_cons (pe_ix (r := rIxT K) ix_tup (pv 5) pe_int (fun _ _ => rfl)) pa_nil)))) pss_nil)
 (pss_one (ps_if (pt_val (pe_at (at_below T) (hr.mono (by decide)) (by rfl) (pa_cons (pe_tup (pa_cons pe_int (pa_cons pe_int pa_nil))) (pa_cons (pv 7) pa_nil)))) (pss_one (ps_expr (pe_bm PySem.F.plainAttrs_list PySem.F.slot_list_append PySem.F.type_list_append mt_append (pe_dget (hu_of hr) (pv 3) (pe_ix (r := rIxT K) ix_tup (pv 5) pe_int (fun _ _ => rfl)) (fun _ _ => rfl)) (pa_cons (pe_ix (r := rIxT K) ix_tup (pv 5) pe_int (fun _ _ => rfl)) pa_nil)))) pss_nil))))
 (pss_one (ps_ret (pv 3))))), ?_⟩
  walk_at "nk"
  obtain ⟨v1, v2, v3, rfl, h1, h2, h3⟩ := oall3 ha
  have hw := hp.hw
  have hl := hp.hl
  obtain ⟨S1, S2, S3⟩ := mf_small hw hl hp.m
  obtain ⟨val, mf⟩ := hp.m
  have lt := mf.lt
  have nt := hw.nt
  have hq := hl.pos
  have nd := Ris.nodup sto_str hw.nm.ris
  have h1 : Im K H v1 (webD a.W) := h1
  have h2 : Im K H v2 (frD a.L) := h2
  have h3 : Im K H v3 (streamD a.L.2 a.s) := h3
  refine q_set (ev_dictR (K := K) nd (ev_rows (i := 4) a.W.names (Nat.le_trans (names_len hw) (by decide)) (evi_s (evi_tup (ev_names_of (W := a.W) (ev_varI (i := 0) rfl h1) hw))) (fun _ ds => ds = []) (fun _ => rfl) (fun _ => rfl)
    fun x H1 hx s => (ev_nil (K := K)).imp fun v H2 s2 p => ⟨[], rfl, p⟩)) fun vf H1 s1 p1 => ?_
  obtain ⟨d, kvs, R, rfl, nd0, M, hk, hk2, hkl⟩ := p1
  have eR : R = wlD [] := by
    funext x
    by_cases z : x ∈ a.W.names
    · exact (hk x z).2
    · exact hk2 x z
  rw [eR] at M
  refine q_for (evi_zip3 (ds := a.W.ties.map tieD) (es := (a.W.ties.map thruF).map frD) (fs := a.s.ft.map fun g => frD (red g a.L.2)) (eva_cons (ev_ixT (i := 2) (ds := [.int a.W.top, .tuple (a.W.places.map placeD), .tuple (a.W.ties.map tieD)]) (ev_varI (i := 0) rfl (Im.same s1 h1)) ev_int rfl)
    (eva_cons (ev_ixT (i := 1) (d := frsD (a.W.ties.map thruF)) (ev_sizes_at (ev_varI (i := 0) rfl (Im.same s1 h1)) (ev_varI (i := 1) rfl (Im.same s1 h2)) hw hl) ev_int rfl) (eva_cons (ev_ixT (i := 1) (d := partsD a.L.2 a.s.ft) (ev_varI (i := 2) rfl (Im.same s1 h3)) ev_int rfl) eva_nil))) (by simp) (by simp [lt])) fun H2 s2 => ?_
  let Pv : Nat → L2.St → Hp → Prop := fun i σ' H' => ∃ x4 x5 x6 x7, σ' = [some v1, some v2, some v3, some (.ref d), x4, x5, x6, x7] ∧ Same H H' ∧ TupKeep H2 H' ∧ DictM K H H' d (wlD (((a.W.ties.zip a.s.ft).take i).flatMap (way1 a.L.2))) kvs
  refine ⟨Pv, ⟨_, _, _, _, rfl, s1.trans s2, TupKeep.refl _, M.same s2⟩, fun i σ' H' ⟨_, _, _, _, _, _, k, _⟩ => k, ?_, ?_⟩
  · rintro i dd y σ' H' H'' hd ⟨x4, x5, x6, x7, rfl, sH, tk, M'⟩ smm hy
    obtain ⟨d1, d2, d3, e1, e2, e3, rfl⟩ := tripD_get hd
    obtain ⟨t, ht, rfl, htm⟩ := get_map (f := tieD) e1
    obtain ⟨th, hth, rfl, _⟩ := get_map e2
    obtain ⟨t', ht', rfl, _⟩ := get_map (f := thruF) hth
    obtain rfl : t = t' := Option.some.inj (ht.symm.trans ht')
    obtain ⟨h, hh, rfl, hhm⟩ := get_map e3
    have hz : (a.W.ties.zip a.s.ft)[i]? = some (t, h) := List.getElem?_zip_eq_some.mpr ⟨ht, hh⟩
    have hb := S2.bd h hhm
    have fh := red_fw hq (g := h) ⟨hb.1, by omega⟩
    have ft := thru_fw hw hl htm
    obtain ⟨inx, iny⟩ := hw.nm.inX t htm
    have il : i ≤ 16 := by
      have := (List.getElem?_eq_some_iff.mp ht).1
      omega
    have small : ∀ (l : List (Str × Str)) x, l.length ≤ 100 → (wlD l x).length < 100000 := fun l x hl => Nat.lt_of_le_of_lt (Nat.le_trans (wl_len l x) hl) (by decide)
    have lw : (((a.W.ties.zip a.s.ft).take i).flatMap (way1 a.L.2)).length ≤ 2 * i := by
      have key : ∀ l : List (Tie × Int), (l.flatMap (way1 a.L.2)).length ≤ 2 * l.length := fun l => by
        induction l with
        | nil => exact Nat.zero_le _
        | cons z l ih =>
          rw [List.flatMap_cons, List.length_append, List.length_cons]
          have : (way1 a.L.2 z).length ≤ 2 := by
            unfold way1
            rw [List.length_append]
            split <;> split <;> simp
          omega
      refine Nat.le_trans (key _) ?_
      rw [List.length_take]
      omega
    refine g_names3 hy fun u5 u6 u7 k5 k6 k7 => ?_
    have it : ∀ {i : Int} {x : Str} {H9 : Hp}, TupKeep H'' H9 → atI [PyData.str t.x, PyData.str t.y, PyData.int t.s] i = some (.str x) → Ev (tOp (rIxT K) (tVar 5) (tC (.int i))) [some v1, some v2, some v3, some (V.ref d), x4, some u5, some u6, some u7] H9 (oI K (.str x)) := fun s e => ev_ixT (ev_varI (i := 5) rfl (k5.keep s)) ev_int e
    have half : ∀ {D : Ends} {H9 : Hp}, D.nx = Pv (i + 1) → Same H H9 → TupKeep H'' H9 → DictM K H H9 d (wlD (((a.W.ties.zip a.s.ft).take i).flatMap (way1 a.L.2) ++ (if h < tc a.L.2 t then [(t.x, t.y)] else []))) kvs →
        tIfS (tB (tCall (sp_below K) [] E0 (tCons (tTup (tCons (tC (.int 0)) (tCons (tC (.int 1)) tNil))) (tCons (tVar 7) tNil)))) (tDrop (tBM K "list" rAppend (tDGet (tVar 3) (tOp (rIxT K) (tVar 5) (tC (.int 1)))) (tCons (tOp (rIxT K) (tVar 5) (tC (.int 0))) tNil))) tNext D [some v1, some v2, some v3, some (V.ref d), x4, some u5, some u6, some u7] H9 := fun {D H9} hD s9 t9 M9 => by
      refine s_when (evb_B (ev_belowF (K := K) (x := (0, 1)) (ev_tup2 ev_int ev_int) (ev_varI (i := 7) rfl (k7.keep t9)) hq hl.bt2 nought_fw fh)) (fun hb H10 s10 => ?_) fun hb H10 s10 => ?_
      · have hb := of_decide_eq_true hb
        refine s_appAt (e := .str t.x) (x := t.y) (M9.same s10) ((hk t.y iny).1) (s9.trans s10) (small _ _ (by rw [List.length_append]; have h1 : (if h < tc a.L.2 t then [(t.x, t.y)] else []).length ≤ 1 := (by split <;> simp); omega)) (ev_varV (i := 3) rfl) (it (t9.trans (tk_same s10)) rfl) (it (t9.trans (tk_same s10)) rfl) fun H11 s11 t11 M11 => ?_
        rw [hD]
        refine ⟨_, _, _, _, rfl, s11, (tk.trans ((tk_same smm).trans t9)).trans ((tk_same s10).trans t11), ?_⟩
        rw [wl_add] at M11
        rw [flat_take hz]
        unfold way1
        rw [if_pos (c := (0 : Int) < h) hb, ← List.append_assoc]
        exact M11
      · have hb := of_decide_eq_false hb
        rw [hD]
        refine ⟨_, _, _, _, rfl, s9.trans s10, (tk.trans ((tk_same smm).trans t9)).trans (tk_same s10), ?_⟩
        rw [flat_take hz]
        unfold way1
        rw [if_neg (c := (0 : Int) < h) hb, List.append_nil]
        exact M9.same s10
    refine q_when (evb_B (ev_belowF (K := K) (ev_varI (i := 7) rfl k7) (ev_varI (i := 6) rfl k6) hq hl.bt2 fh ft)) (fun hb H10 s10 => ?_) fun hb H10 s10 => ?_
    · have hb := of_decide_eq_true hb
      refine s_appAt (e := .str t.y) (x := t.x) ((M'.same smm).same s10) ((hk t.x inx).1) ((sH.trans smm).trans s10) (small _ _ (by omega)) (ev_varV (i := 3) rfl) (it (tk_same s10) rfl) (it (tk_same s10) rfl) fun H11 s11 t11 M11 => ?_
      refine half rfl s11 ((tk_same s10).trans t11) ?_
      rw [wl_add] at M11
      rw [if_pos hb]
      exact M11
    · have hb := of_decide_eq_false hb
      refine half rfl ((sH.trans smm).trans s10) (tk_same s10) ?_
      rw [if_neg hb, List.append_nil]
      exact (M'.same smm).same s10
  · rintro σ' H' ⟨x4, x5, x6, x7, rfl, sH, tk, M'⟩
    have zl : (tripD (a.W.ties.map tieD) ((a.W.ties.map thruF).map frD) (a.s.ft.map fun g => frD (red g a.L.2))).length = (a.W.ties.zip a.s.ft).length := by
      unfold tripD
      rw [List.length_map, List.length_zip, List.length_zip, List.length_zip, List.length_map, List.length_map, List.length_map, List.length_map]
      omega
    rw [zl, List.take_length] at M'
    exact s_ret (ev_varV (i := 3) rfl) fun v H3 s3 p3 => q v H3 (sH.trans s3) ⟨d, kvs, p3, M'.l.same s3, fun x hx => (hk x hx).1⟩
theorem ev_ways_left {σ : L2.St} {H : Hp} {ta tb tc : TE} (a : Wls) (h : Ev ta σ H (oI K (webD a.W))) (l : Ev tb σ H (oI K (frD a.L))) (k : Ev tc σ H (oI K (streamD a.L.2 a.s))) (hp : a.Ok) : Ev (tCall (sp_ways_left K) [] E0 (tCons ta (tCons tb (tCons tc tNil)))) σ H (oDk K a.W.names (wlD a.ways)) := ev_call a (eva_cons h (eva_cons l (eva_cons k eva_nil))) hp
end
end Cut
end
section
namespace Cut
open PySem PySem.Spec PyProof.Rows L2
local macro_rules | `(tactic| walk_at "nk") => `(tactic| first | dsimp only [cxOf, Cx.nox, Cx.wish, Cx.blk] | skip)
local macro_rules | `(tactic| walk_at "im") => `(tactic| first
  | assumption
  | exact Im.int _ | exact Im.str _ | exact Im.bl _ | exact Im.non
  | (refine Im.same (by assumption) ?_; walk_at "im"))
local macro_rules | `(tactic| walk_at "side") => `(tactic| first | assumption | rfl | omega)
local macro_rules | `(tactic| walk_at "ev") => `(tactic| first
  | (with_reducible exact ev_int) | (with_reducible exact ev_str) | (with_reducible exact ev_bl) | (with_reducible exact ev_non)
  | ((with_reducible apply ev_varI); rfl; walk_at "im")
  | ((with_reducible apply ev_ixT); walk_at "ev"; walk_at "ev"; walk_at "side")
  | ((with_reducible apply ev_add); walk_at "ev"; walk_at "ev")
  | ((with_reducible apply ev_sub); walk_at "ev"; walk_at "ev")
  | ((with_reducible apply ev_mul); walk_at "ev"; walk_at "ev"; walk_at "side")
  | ((with_reducible apply ev_div); walk_at "ev"; walk_at "ev"; walk_at "side")
  | ((with_reducible apply ev_mod); walk_at "ev"; walk_at "ev"; walk_at "side")
  | ((with_reducible apply ev_eqI); walk_at "ev"; walk_at "ev")
  | ((with_reducible apply ev_neI); walk_at "ev"; walk_at "ev")
  | ((with_reducible apply ev_eqS); walk_at "ev"; walk_at "ev")
  | ((with_reducible apply ev_neS); walk_at "ev"; walk_at "ev")
  | ((with_reducible apply ev_cmp); walk_at "ev"; walk_at "ev")
  | ((with_reducible apply ev_tup1); walk_at "ev")
  | ((with_reducible apply ev_tup2); walk_at "ev"; walk_at "ev")
  | ((with_reducible apply ev_tup3); walk_at "ev"; walk_at "ev"; walk_at "ev")
  | ((with_reducible apply ev_tup4); walk_at "ev"; walk_at "ev"; walk_at "ev"; walk_at "ev")
  | ((with_reducible apply ev_tup5); walk_at "ev"; walk_at "ev"; walk_at "ev"; walk_at "ev"; walk_at "ev")
  | ((with_reducible apply ev_lenT); walk_at "ev")
  | ((with_reducible apply ev_abs); walk_at "ev")
  | ((with_reducible apply ev_tupleL); walk_at "ev")
  | ((with_reducible apply ev_notV); walk_at "ev")
  | assumption)

/-! rows of texts as data -/
theorem strs_lay : ∀ {l : List Str}, (∀ x ∈ l, PyData.strOk x = true) → PyData.canLayAll0 (l.map .str) = true
  | [], _ => by simp [PyData.canLayAll0]
  | x :: l, h => by
    have h1 := h x List.mem_cons_self
    have h2 := strs_lay (l := l) fun y hy => h y (List.mem_cons_of_mem _ hy)
    simp [PyData.canLayAll0, PyData.canLay0, h1, h2]
theorem strs_depth : ∀ l : List Str, PyData.depthAll (l.map .str) ≤ 1
  | [] => by simp [PyData.depthAll]
  | x :: l => by
    have h := strs_depth l
    simp only [List.map_cons, PyData.depthAll, PyData.depth]
    omega
theorem shaped_strs {l : List Str} (h : ∀ x ∈ l, PyData.strOk x = true) : SeqAt.shaped (strsD l) = true := by
  have d := strs_depth l
  have e := strs_lay h
  show (PyData.canLay0 (.tuple (l.map .str)) && decide (PyData.depth (.tuple (l.map .str)) ≤ 64)) = true
  rw [Bool.and_eq_true]
  refine ⟨by simp only [PyData.canLay0]; exact e, decide_eq_true ?_⟩
  simp only [PyData.depth]
  omega
theorem rows_lay : ∀ {ls : List (List Str)}, (∀ l ∈ ls, ∀ x ∈ l, PyData.strOk x = true) → PyData.canLayAll0 (ls.map strsD) = true
  | [], _ => by simp [PyData.canLayAll0]
  | l :: ls, h => by
    have h1 : PyData.canLay0 (strsD l) = true := by
      show PyData.canLay0 (.tuple (l.map .str)) = true
      simp only [PyData.canLay0]
      exact strs_lay (h l List.mem_cons_self)
    have h2 := rows_lay (ls := ls) fun y hy => h y (List.mem_cons_of_mem _ hy)
    simp [PyData.canLayAll0, h1, h2]
theorem rows_depth : ∀ ls : List (List Str), PyData.depthAll (ls.map strsD) ≤ 2
  | [] => by simp [PyData.depthAll]
  | l :: ls => by
    have h := rows_depth ls
    have d := strs_depth l
    have e : PyData.depth (strsD l) ≤ 2 := by
      show PyData.depth (.tuple (l.map .str)) ≤ 2
      simp only [PyData.depth]
      omega
    simp only [List.map_cons, PyData.depthAll]
    omega
theorem shaped_rowsL {ls : List (List Str)} (h : ∀ l ∈ ls, ∀ x ∈ l, PyData.strOk x = true) : SeqAt.shaped (.list (ls.map strsD)) = true := by
  have d := rows_depth ls
  show (PyData.canLay0 (.list (ls.map strsD)) && decide (PyData.depth (.list (ls.map strsD)) ≤ 64)) = true
  rw [Bool.and_eq_true]
  refine ⟨by simp only [PyData.canLay0]; exact rows_lay h, decide_eq_true ?_⟩
  simp only [PyData.depth]
  omega
theorem shaped_rowsT {ls : List (List Str)} (h : ∀ l ∈ ls, ∀ x ∈ l, PyData.strOk x = true) : SeqAt.shaped (.tuple (ls.map strsD)) = true := by
  have d := rows_depth ls
  show (PyData.canLay0 (.tuple (ls.map strsD)) && decide (PyData.depth (.tuple (ls.map strsD)) ≤ 64)) = true
  rw [Bool.and_eq_true]
  refine ⟨by simp only [PyData.canLay0]; exact rows_lay h, decide_eq_true ?_⟩
  simp only [PyData.depth]
  omega
theorem eqvAll_strs : ∀ a b : List Str, PyData.eqvAll (a.map .str) (b.map .str) = decide (a = b)
  | [], [] => by simp [PyData.eqvAll]
  | [], _ :: _ => by simp [PyData.eqvAll]
  | _ :: _, [] => by simp [PyData.eqvAll]
  | x :: a, y :: b => by
    simp only [List.map_cons, PyData.eqvAll, PyData.eqv]
    rw [eqvAll_strs a b, str_beqD]
    by_cases h : x = y
    · subst h
      simp
    · simp [h]
theorem eqv_strs (a b : List Str) : PyData.eqv (strsD a) (strsD b) = decide (a = b) := by
  show PyData.eqv (.tuple (a.map .str)) (.tuple (b.map .str)) = _
  simp only [PyData.eqv]
  exact eqvAll_strs a b
theorem any_rows (ls : List (List Str)) (b : List Str) : ((ls.map strsD).any fun z => PyData.eqv z (strsD b)) = decide (b ∈ ls) := by
  rw [List.any_map]
  induction ls with
  | nil => simp
  | cons l ls ih =>
    rw [List.any_cons, ih]
    show (PyData.eqv (strsD l) (strsD b) || decide (b ∈ ls)) = _
    rw [eqv_strs]
    by_cases h : l = b
    · subst h
      simp
    · have : ¬ b = l := fun z => h z.symm
      simp [h, this]
theorem eqvAll_rows : ∀ a b : List (List Str), PyData.eqvAll (a.map strsD) (b.map strsD) = decide (a = b)
  | [], [] => by simp [PyData.eqvAll]
  | [], _ :: _ => by simp [PyData.eqvAll]
  | _ :: _, [] => by simp [PyData.eqvAll]
  | x :: a, y :: b => by
    simp only [List.map_cons, PyData.eqvAll]
    rw [eqvAll_rows a b, eqv_strs]
    by_cases h : x = y
    · subst h
      simp
    · simp [h]
theorem eqv_rowsL (a b : List (List Str)) : PyData.eqv (.list (a.map strsD)) (.list (b.map strsD)) = decide (a = b) := by
  simp only [PyData.eqv]
  exact eqvAll_rows a b
section
variable {K : PySem.W.Frag} {σ : L2.St} {H : Hp} {te td ty ta tb : TE} {names : List Str} {R : Str → List PyData} {x : Str}
/-- d[x], a list -/
theorem ev_dget1 {d : Addr} {kvs : List (Key × V)} (hd : Ev td σ H (oV (.ref d))) (hy : Ev ty σ H (oI K (.str x))) (L : DictL K H d R kvs) (hx : (valV kvs (.inr x)).isSome = true) : Ev (tDGet td ty) σ H (oL K (R x)) := by
  cases e : valV kvs (.inr x) with
  | none => rw [e] at hx; cases hx
  | some v =>
    have Lx := L.2 x
    rw [e] at Lx
    exact ev_dgetV hd hy L.1 e (show (oL K (R x)).p v H from Lx)
theorem ev_dgetP {d w : Addr} {kvs : List (Key × V)} {B : Hp} (hd : Ev td σ H (oV (.ref d))) (hy : Ev ty σ H (oI K (.str x))) (L : DictL K B d R kvs) (hx : (valV kvs (.inr x)).isSome = true) (sB : Same B H) (nw : B w = none) : Ev (tDGet td ty) σ H (oLp K (fun a => a ≠ w) (R x)) := by
  cases e : valV kvs (.inr x) with
  | none => rw [e] at hx; cases hx
  | some v =>
    have Lx := L.2 x
    rw [e] at Lx
    obtain ⟨l, xs, rfl, h1, h2⟩ := Lx
    refine ev_dgetV hd hy (sB _ _ L.1) e (show (oLp K (fun a => a ≠ w) (R x)).p (.ref l) H from ⟨l, xs, rfl, ?_, sB _ _ h1, h2.same sB⟩)
    rintro rfl
    rw [h1] at nw
    cases nw
theorem ev_notInRows {b : List Str} {ls : List (List Str)} (ha : Ev ta σ H (oI K (strsD b))) (hb : Ev tb σ H (oL K (ls.map strsD))) (h1 : ∀ x ∈ b, PyData.strOk x = true) (h2 : ∀ l ∈ ls, ∀ x ∈ l, PyData.strOk x = true) : Ev (tOp (rNotInD K) ta tb) σ H (oI K (.bool (!decide (b ∈ ls)))) :=
  ev_op ha hb fun u v H1 s p1 p2 Q q => by
    obtain ⟨a, xs, rfl, e, i⟩ := p2
    refine ⟨strsD b, ls.map strsD, Im.dp p1, .lst (SqL.of e) (ImAll.dp i), shaped_strs h1, shaped_rowsL h2, q _ H1 (Same.refl H1) ?_⟩
    rw [any_rows]
    exact Im.bl _
theorem ev_callE {α β : Type} {Ps : α → List Ob} {pre : α → Prop} {rel : α → β → Prop} {ds : β → List PyData} {ta : TA} (a : α) (h : EvA ta σ H (Ps a)) (hp : pre a) : Ev (tCall (spB Ps pre fun a B => oE (rel a) fun b => oN K B (ds b)) [] E0 ta) σ H (oE (rel a) fun b => oN K H (ds b)) := fun H1 s Q q =>
  h H1 s _ fun vs H2 s2 p2 => ⟨a, hp, by rw [List.append_nil]; exact p2, fun v H3 s3 ⟨b, hb, l, xs, e, n, z⟩ => q v H3 (s2.trans s3) ⟨b, hb, l, xs, e, (s.trans s2).free n, z⟩⟩
end
structure RcA where
  names : List Str
  ways : List (Str × Str)
  x : Str
structure RcA.Ok (a : RcA) : Prop where
  ln : a.names.length ≤ 8
  lw : a.ways.length ≤ 40
  hx : a.x ∈ a.names
  hw : ∀ p ∈ a.ways, p.2 ∈ a.names
theorem mem_wl {ways : List (Str × Str)} {x : Str} {d : PyData} (h : d ∈ wlD ways x) : ∃ p ∈ ways, p.1 = x ∧ d = .str p.2 := by
  obtain ⟨p, hp, rfl⟩ := List.mem_map.mp h
  obtain ⟨h1, h2⟩ := List.mem_filter.mp hp
  exact ⟨p, h1, of_decide_eq_true h2, rfl⟩
section
variable {P : Program} {w : World} {K : PySem.W.Frag} {mg : Str → Option Value} {base : Heap}
def sp_reached (K : PySem.W.Frag) : Sp := spB (α := RcA) (fun a => [oDk K a.names (wlD a.ways), oI K (.str a.x)]) RcA.Ok fun a B => oE (fun fs => IsClo a.ways [a.x] fs) fun fs => oN K B (fs.map .str)
theorem at_reached (T : Tx K mg) : At P w K mg base 1 "reached" ["ways", "name"] (sp_reached K) := by
  refine at_ofB T.d_reached sc_reached (fun _ => rfl) fun f cdv A outer s H vs Q E a hr hp ha q => ?_
  refine ⟨_, (pss_cons (ps_set (i := 2) sc_reached.nd rfl (Or.inl rfl) (pe_lst (pa_cons (pv 1) pa_nil)))
 (pss_cons (ps_set (i := 3) sc_reached.nd rfl (Or.inl rfl) pe_int)
 (pss_cons (ps_while PassesOwn.never (pt_cmpR op_lt (pv 3) (pe_callB (r := rLenS K) cr_lenS (by rfl) T.m_len (by decide +kernel) (pa_cons (pv 2) pa_nil)) (nomark _)) (pss_cons (ps_for PassesOwn.never rfl (show PI _ _ _ (iList K _) from pi_list (pe_dget (hu_of hr) (pv 0) (pe_ix (r := rIxL K) ix_list (pv 2) (pv 3) (fun _ _ => rfl)) (fun _ _ => rfl))) (pg_name (i := 4) sc_reached.nd rfl (Or.inl rfl)) (pss_one (ps_if (pt_cmpR (r := rIn K true) op_notIn_seq (pv 4) (pv 2) (by rfl)) (pss_one (ps_expr (pe_bm PySem.F.plainAttrs_list PySem.F.slot_list_append PySem.F.type_list_append mt_append (pv 2) (pa_cons (pv 4) pa_nil)))) pss_nil)))
 (pss_one (ps_set (i := 3) sc_reached.nd rfl (Or.inl rfl) (pe_op op_add (pv 3) pe_int)))))
 (pss_one (ps_ret (pv 2)))))), ?_⟩
  walk_at "nk"
  obtain ⟨v1, v2, rfl, ⟨d, kvs, rfl, L, hk⟩, h2⟩ := oall2 ha
  obtain rfl : v2 = .str a.x := Im.str_inv h2
  have ln := hp.ln
  refine q_set (ev_lstN (K := K) (ds := [.str a.x]) (eva_cons (ev_varI (i := 1) rfl (Im.str _)) eva_nil) (by simp)) fun vf H1 s1 p1 => ?_
  obtain ⟨lf, xs0, rfl, nf, ef, if0⟩ := p1
  obtain rfl := if0.strs (xs := [a.x])
  refine q_set (ev_int (K := K)) fun va H2 s2 p2 => ?_
  obtain rfl := Im.int_inv p2
  refine q_while (fun m σ' H' => ∃ at' fs x4, σ' = [some (.ref d), some (.str a.x), some (.ref lf), some (.int (at' : Nat)), x4] ∧ Same H H' ∧ H' lf = some (.lst (fs.map V.str)) ∧ fs.Nodup ∧ (∀ x ∈ fs, x ∈ a.names) ∧ a.x ∈ fs ∧ at' ≤ fs.length ∧ m + at' = 9 ∧
      (∀ (i : Nat) (x : Str), i < at' → fs[i]? = some x → ∀ p ∈ a.ways, p.1 = x → p.2 ∈ fs) ∧ ∀ S : Str → Bool, ClosedU a.ways S → (∀ x ∈ [a.x], S x = true) → ∀ x ∈ fs, S x = true) 9
    ⟨0, [a.x], none, rfl, s1.trans s2, s2 _ _ ef, by simp, fun x h => by rw [List.mem_singleton.mp h]; exact hp.hx, List.mem_singleton.mpr rfl, Nat.zero_le _, rfl, fun i x hi => absurd hi (by omega), fun S _ h => h⟩ ?_
  rintro m σ' H' ⟨at', fs, x4, rfl, sH, ef, nd, sub, hst, hat, hm, hcl, hle⟩
  have l8 : fs.length ≤ 8 := Nat.le_trans (nodup_len fs a.names nd sub) ln
  refine ⟨_, evb_test (ev_cmp (ev_varI (i := 3) rfl (Im.int _)) (ev_lenL (ds := fs.map .str) (ev_varL (i := 2) rfl ef (ImAll.of_strs fs)))), fun hlt H4 s4 => ?_, fun hge H4 s4 => ?_⟩
  · have hlt : at' < fs.length := by
      have := of_decide_eq_true hlt
      rw [List.length_map] at this
      omega
    have hx : fs[at']? = some fs[at'] := List.getElem?_eq_getElem hlt
    generalize fs[at'] = x at hx
    have ef4 := s4 _ _ ef
    have ix : atI (fs.map PyData.str) (at' : Int) = some (.str x) := atI_nat (by rw [List.getElem?_map, hx]; rfl)
    refine q_forP (evi_listP (ev_dgetP (R := wlD a.ways) (x := x) (w := lf) (ev_varV (i := 0) rfl) (ev_ixL (ev_varL (i := 2) rfl ef4 (ImAll.of_strs fs)) (ev_varI (i := 3) rfl (Im.int _)) ix) L (hk x (sub x (List.mem_of_getElem? hx))) (sH.trans s4) nf)) fun H5 b ys s5 nb e5 => ?_
    refine ⟨fun i σ' H' => ∃ fs2 x4, σ' = [some (.ref d), some (.str a.x), some (.ref lf), some (.int (at' : Nat)), x4] ∧ Same H H' ∧ TupKeep H5 H' ∧ H' b = some (.lst ys) ∧ H' lf = some (.lst (fs2.map V.str)) ∧ fs2.Nodup ∧ (∀ x ∈ fs2, x ∈ a.names) ∧ (∃ vs, fs2 = fs ++ vs) ∧
        (∀ y, PyData.str y ∈ (wlD a.ways x).take i → y ∈ fs2) ∧ ∀ S : Str → Bool, ClosedU a.ways S → (∀ x ∈ [a.x], S x = true) → ∀ x ∈ fs2, S x = true,
      ⟨fs, x4, rfl, (sH.trans s4).trans s5, TupKeep.refl _, e5, s5 _ _ ef4, nd, sub, ⟨[], by simp⟩, fun y h => absurd h (by simp), hle⟩, fun i σ' H' ⟨_, _, _, _, k1, k2, _⟩ => ⟨k1, k2⟩, ?_, ?_⟩
    · rintro i dd y σ' H' H'' hd ⟨fs2, x4, rfl, sH2, tk, eb, ef2, nd2, sub2, ⟨vs, rfl⟩, hin, hle2⟩ smm hy
      obtain ⟨p, hp1, hp2, rfl⟩ := mem_wl (List.mem_of_getElem? hd)
      obtain rfl := Im.str_inv hy
      have ef3 := smm _ _ ef2
      have tk1 : ∀ z, PyData.str z ∈ (wlD a.ways x).take (i + 1) → PyData.str z ∈ (wlD a.ways x).take i ∨ z = p.2 := fun z h => by
        rw [List.take_add_one, hd] at h
        rcases List.mem_append.mp h with q | q
        · exact .inl q
        · have : PyData.str z ∈ [PyData.str p.2] := q
          exact .inr (PyData.str.inj (List.mem_singleton.mp this))
      refine s_when (evb_test (ev_inS (K := K) (neg := true) (xs := fs ++ vs) (ev_varI (i := 4) rfl (Im.str _)) (ev_varL (i := 2) rfl ef3 (ImAll.of_strs _)).qL)) (fun hb H6 s6 => ?_) fun hb H6 s6 => ?_
      · have hn : p.2 ∉ fs ++ vs := by
          intro q
          rw [decide_eq_true q] at hb
          cases hb
        refine s_app (s6 _ _ ef3) (ev_varV (i := 2) rfl) (P := oI K (.str p.2)) (ev_varI (i := 4) rfl (Im.str _)) (by rw [List.length_map]; have := Nat.le_trans (nodup_len _ a.names nd2 sub2) ln; omega) fun u H7 s7 p7 => ?_
        obtain rfl := Im.str_inv p7
        refine ⟨fs ++ vs ++ [p.2], _, rfl, same_mut (((sH2.trans smm).trans s6).trans s7) nf, (tk.trans (tk_same ((smm.trans s6).trans s7))).trans (tk_upd (s7 _ _ (s6 _ _ ef3)) trivial), ?_, ?_, ?_, fun z hz => ?_, ⟨vs ++ [p.2], by simp⟩, fun z hz => ?_, fun S hS hs z hz => ?_⟩
        · rw [upd_ne nb]
          exact s7 _ _ (s6 _ _ (smm _ _ eb))
        · rw [upd_same, List.map_append (l₁ := fs ++ vs)]
          rfl
        · refine List.nodup_append.mpr ⟨nd2, by simp, fun c hc d hd e => hn ?_⟩
          rw [← List.mem_singleton.mp hd, ← e]
          exact hc
        · rcases List.mem_append.mp hz with q | q
          · exact sub2 z q
          · rw [List.mem_singleton.mp q]
            exact hp.hw p hp1
        · rcases tk1 z hz with q | q
          · exact List.mem_append_left _ (hin z q)
          · rw [q]
            exact List.mem_append_right _ (List.mem_singleton.mpr rfl)
        · rcases List.mem_append.mp hz with q | q
          · exact hle2 S hS hs z q
          · rw [List.mem_singleton.mp q]
            refine hS p hp1 ?_
            rw [hp2]
            exact hle S hS hs x (List.mem_of_getElem? hx)
      · have hn : p.2 ∈ fs ++ vs := by
          by_cases q : p.2 ∈ fs ++ vs
          · exact q
          · rw [decide_eq_false q] at hb
            cases hb
        refine ⟨fs ++ vs, _, rfl, (sH2.trans smm).trans s6, tk.trans (tk_same (smm.trans s6)), s6 _ _ (smm _ _ eb), s6 _ _ ef3, nd2, sub2, ⟨vs, rfl⟩, fun z hz => ?_, hle2⟩
        rcases tk1 z hz with q | q
        · exact hin z q
        · rw [q]
          exact hn
    · rintro σ' H' ⟨fs2, x4, rfl, sH2, tk, eb, ef2, nd2, sub2, ⟨vs, rfl⟩, hin, hle2⟩
      rw [List.take_length] at hin
      refine s_set (ev_add (K := K) (ev_varI (i := 3) rfl (Im.int _)) ev_int) fun u H6 s6 p6 => ?_
      obtain rfl := Im.int_inv p6
      refine ⟨m - 1, by omega, at' + 1, fs ++ vs, x4, rfl, sH2.trans s6, s6 _ _ ef2, nd2, sub2, List.mem_append_left _ hst, by rw [List.length_append]; omega, by omega, fun i z hi hz p hpm e => ?_, hle2⟩
      rw [List.getElem?_append_left (by omega)] at hz
      rcases Nat.lt_or_ge i at' with q | q
      · exact List.mem_append_left _ (hcl i z q hz p hpm e)
      · obtain rfl : i = at' := by omega
        rw [hx] at hz
        obtain rfl := Option.some.inj hz
        exact hin p.2 (List.mem_map.mpr ⟨p, List.mem_filter.mpr ⟨hpm, decide_eq_true e⟩, rfl⟩)
  · have hge : fs.length ≤ at' := by
      have := of_decide_eq_false hge
      rw [List.length_map] at this
      omega
    exact s_ret (ev_varV (i := 2) rfl) fun v H5 s5 p5 => q v H5 ((sH.trans s4).trans s5) ⟨fs, ⟨fun x h => by rw [List.mem_singleton.mp h]; exact hst, fun p hpm hin => by
      obtain ⟨i, hi, e⟩ := List.mem_iff_getElem.mp hin
      exact hcl i p.1 (by omega) (by rw [List.getElem?_eq_getElem hi, e]) p hpm rfl, hle⟩, lf, _, p5, nf, s5 _ _ (s4 _ _ ef), ImAll.of_strs fs⟩
theorem ev_reached {σ : L2.St} {H : Hp} {ta tb : TE} (a : RcA) (h : Ev ta σ H (oDk K a.names (wlD a.ways))) (k : Ev tb σ H (oI K (.str a.x))) (hp : a.Ok) : Ev (tCall (sp_reached K) [] E0 (tCons ta (tCons tb tNil))) σ H (oE (fun fs => IsClo a.ways [a.x] fs) fun fs => oN K H (fs.map .str)) := ev_callE (rel := fun (a : RcA) (fs : List Str) => IsClo a.ways [a.x] fs) (ds := fun fs => fs.map .str) a (eva_cons h (eva_cons k eva_nil)) hp
/-! the shape -/
abbrev pairND (p : Nat × Nat) : PyData := .tuple [.int (p.1 : Nat), .int (p.2 : Nat)]
def shapeD (s : Shp Str) : PyData := .tuple [strsD s.low, .tuple (s.blocks.map strsD), .tuple (s.arrows.map pairND)]
noncomputable def sp_shape_at (K : PySem.W.Frag) : Sp := spD (α := Web × Fr) (fun a => [oI K (webD a.1), oI K (frD a.2)]) (fun a => WebOk a.1 ∧ PrOk a.1 a.2) fun a => oI K (shapeD (shapeOf a.1.names (fam a.1 a.2.1 a.2.2)))
theorem btw_filter {a : Wls} (h : a.Ok) {lo le : List Str} (c1 : CloR a.ways a.starts lo) (c2 : CloR a.back a.ends le) : (a.W.names.filter fun x => !decide (x ∈ lo) && !decide (x ∈ le)) = btwOf a.W.names (fam a.W a.L.1 a.L.2) := by
  refine List.filter_congr fun x _ => ?_
  have h1 := (clo_low h c1).2 x
  have h2 := clo_lead h c2 x
  unfold btwB
  cases e : cdec (¬ Low (fam a.W a.L.1 a.L.2) x ∧ ¬ Lead (fam a.W a.L.1 a.L.2) x) with
  | true =>
    obtain ⟨q1, q2⟩ := cdec_iff.mp e
    rw [decide_eq_false fun z => q1 (h1.mp z), decide_eq_false fun z => q2 (h2.mp z)]
    rfl
  | false =>
    have q := cdec_no.mp e
    by_cases z : x ∈ lo
    · rw [decide_eq_true z]
      rfl
    · by_cases z2 : x ∈ le
      · rw [decide_eq_true z2, Bool.and_comm]
        rfl
      · exact absurd ⟨fun y => z (h1.mpr y), fun y => z2 (h2.mpr y)⟩ q
theorem btw_len {W : Web} (hw : WebOk W) (L : Fam Str) : (btwOf W.names L).length ≤ 8 := Nat.le_trans (List.length_filter_le _ _) (names_len hw)
theorem fold_len (f : Str → List Str) : ∀ (l : List Str) (bs : List (List Str)), (l.foldl (fun bs x => addNew bs (f x)) bs).length ≤ bs.length + l.length
  | [], bs => Nat.le_refl _
  | x :: l, bs => by
    rw [List.foldl_cons, List.length_cons]
    have h := fold_len f l (addNew bs (f x))
    have : (addNew bs (f x)).length ≤ bs.length + 1 := by
      unfold addNew
      split
      · omega
      · rw [List.length_append]
        exact Nat.le_refl _
    omega
theorem blocks_len {W : Web} (hw : WebOk W) (L : Fam Str) : (blocksOf W.names L).length ≤ 8 := by
  have h := fold_len (blockOf W.names L) (btwOf W.names L) []
  have := btw_len hw L
  unfold blocksOf
  rw [List.length_nil] at h
  omega
/-- the pairs seen so far -/
def pairsTo (n i j : Nat) : List (Nat × Nat) := ((List.range i).flatMap fun a => (List.range n).map fun b => (a, b)) ++ (List.range j).map fun b => (i, b)
theorem pairs_succ (n i j : Nat) : pairsTo n i (j + 1) = pairsTo n i j ++ [(i, j)] := by
  unfold pairsTo
  rw [List.range_succ, List.map_append, List.append_assoc]
  rfl
theorem pairs_next (n i : Nat) : pairsTo n (i + 1) 0 = pairsTo n i n := by
  unfold pairsTo
  rw [List.range_succ, List.flatMap_append]
  simp
theorem pairs_all (n : Nat) : pairsTo n n 0 = pairsN n := by
  unfold pairsTo pairsN
  simp
theorem pairs_len (n i j : Nat) : (pairsTo n i j).length = i * n + j := by
  unfold pairsTo
  rw [List.length_append, List.length_map, List.length_range]
  congr 1
  induction i with
  | zero => simp
  | succ i ih =>
    rw [List.range_succ, List.flatMap_append, List.length_append, ih, Nat.succ_mul]
    simp
end
end Cut
end
section
namespace Cut
open PySem PySem.Spec PyProof.Rows L2
local macro_rules | `(tactic| walk_at "nk") => `(tactic| first | dsimp only [cxOf, Cx.nox, Cx.wish, Cx.blk] | skip)
local macro_rules | `(tactic| walk_at "im") => `(tactic| first
  | assumption
  | exact Im.int _ | exact Im.str _ | exact Im.bl _ | exact Im.non
  | (refine Im.same (by assumption) ?_; walk_at "im"))
local macro_rules | `(tactic| walk_at "side") => `(tactic| first | assumption | rfl | omega)
local macro_rules | `(tactic| walk_at "ev") => `(tactic| first
  | (with_reducible exact ev_int) | (with_reducible exact ev_str) | (with_reducible exact ev_bl) | (with_reducible exact ev_non)
  | ((with_reducible apply ev_varI); rfl; walk_at "im")
  | ((with_reducible apply ev_ixT); walk_at "ev"; walk_at "ev"; walk_at "side")
  | ((with_reducible apply ev_add); walk_at "ev"; walk_at "ev")
  | ((with_reducible apply ev_sub); walk_at "ev"; walk_at "ev")
  | ((with_reducible apply ev_mul); walk_at "ev"; walk_at "ev"; walk_at "side")
  | ((with_reducible apply ev_div); walk_at "ev"; walk_at "ev"; walk_at "side")
  | ((with_reducible apply ev_mod); walk_at "ev"; walk_at "ev"; walk_at "side")
  | ((with_reducible apply ev_eqI); walk_at "ev"; walk_at "ev")
  | ((with_reducible apply ev_neI); walk_at "ev"; walk_at "ev")
  | ((with_reducible apply ev_eqS); walk_at "ev"; walk_at "ev")
  | ((with_reducible apply ev_neS); walk_at "ev"; walk_at "ev")
  | ((with_reducible apply ev_cmp); walk_at "ev"; walk_at "ev")
  | ((with_reducible apply ev_tup1); walk_at "ev")
  | ((with_reducible apply ev_tup2); walk_at "ev"; walk_at "ev")
  | ((with_reducible apply ev_tup3); walk_at "ev"; walk_at "ev"; walk_at "ev")
  | ((with_reducible apply ev_tup4); walk_at "ev"; walk_at "ev"; walk_at "ev"; walk_at "ev")
  | ((with_reducible apply ev_tup5); walk_at "ev"; walk_at "ev"; walk_at "ev"; walk_at "ev"; walk_at "ev")
  | ((with_reducible apply ev_lenT); walk_at "ev")
  | ((with_reducible apply ev_abs); walk_at "ev")
  | ((with_reducible apply ev_tupleL); walk_at "ev")
  | ((with_reducible apply ev_notV); walk_at "ev")
  | assumption)

theorem filter_snoc {α : Type} (p : α → Bool) (l : List α) (a : α) : (l ++ [a]).filter p = l.filter p ++ if p a = true then [a] else [] := by
  rw [List.filter_append, List.filter_cons]
  rfl
section
variable {P : Program} {w : World} {K : PySem.W.Frag} {mg : Str → Option Value} {base : Heap}
theorem at_shape_at (T : Tx K mg) : At P w K mg base 9 "shape_at" ["web", "price"] (sp_shape_at K) := by
  refine at_of T.d_shape_at sc_shape_at (fun _ => rfl) fun f cdv A outer s H vs Q E a hr hp ha q => ?_
  refine ⟨_, (pss_cons (ps_set (i := 2) sc_shape_at.nd rfl (Or.inl rfl) (pe_at (at_stream_at T) (hr.mono (by decide)) (by rfl) (pa_cons (pv 0) (pa_cons (pv 1) pa_nil))))
 (pss_cons (ps_set (i := 3) sc_shape_at.nd rfl (Or.inr rfl) (pe_at (at_led_to T) (hr.mono (by decide)) (by rfl) (pa_cons (pv 0) (pa_cons (pv 1) (pa_cons (pv 2) pa_nil)))))
 (pss_cons (ps_set (i := 4) sc_shape_at.nd rfl (Or.inr rfl) (pe_at (at_led_from T) (hr.mono (by decide)) (by rfl) (pa_cons (pv 0) (pa_cons (pv 1) (pa_cons (pv 2) pa_nil)))))
 (pss_cons (ps_set (i := 5) sc_shape_at.nd rfl (Or.inr rfl) (pe_at (at_ways_left T) (hr.mono (by decide)) (by rfl) (pa_cons (pv 0) (pa_cons (pv 1) (pa_cons (pv 2) pa_nil)))))
 (pss_cons (ps_setLc (i := 6) rfl sc_shape_at.nd rfl rfl (sw_true rfl rfl rfl (by decide +kernel)) (show PI _ _ _ (iTup K _) from pi_tup (pe_at (at_names_of T) (hr.mono (by decide)) (by rfl) (pa_cons (pv 0) pa_nil))) (blkOk_by (N := N_shape_at) (sc := defScope s_shape_at) (own := [("name", 7)]) (by decide +kernel)) (fun _ _ _ _ _ => (pg_name (i := 7) sc_shape_at.nd rfl (Or.inl rfl))) (fun _ _ _ _ _ => (pts_one (PW.pt (pw_and (pt_cmpR (r := rIn K true) op_notIn_seq (pv 7) (pv 3) (by rfl)) (pw_and1 (pt_cmpR (r := rIn K true) op_notIn_seq (pv 7) (pv 4) (by rfl))))))) (fun _ _ _ _ _ => (pv 7)))
 (pss_cons (ps_set (i := 8) sc_shape_at.nd rfl (Or.inr rfl) (pe_callTy (r := rDictP K) (cr_dictP rfl) (by rfl) T.m_dict (by decide +kernel) (pa_cons (pe_lc rfl sc_shape_at.nd (show PI _ _ _ (iList K _) from pi_list (pv 6)) (blkOk_by (N := N_shape_at) (sc := defScope s_shape_at) (own := [("name", 7)]) (by decide +kernel)) (fun _ _ _ _ _ => (pg_name (i := 7) sc_shape_at.nd rfl (Or.inl rfl))) (fun _ _ _ _ _ => pts_nil) (fun _ _ _ _ _ => (pe_tup (pa_cons (pv 7) (pa_cons (pe_at (at_reached T) (hr.mono (by decide)) (by rfl) (pa_cons (pv 5) (pa_cons (pv 7) pa_nil))) pa_nil))))) pa_nil)))
 (pss_cons (ps_set (i := 9) sc_shape_at.nd rfl (Or.inl rfl) (pe_lst pa_nil))
 (pss_cons (ps_for PassesOwn.never rfl (show PI _ _ _ (iList K _) from pi_list (pv 6)) (pg_name (i := 7) sc_shape_at.nd rfl (Or.inr rfl)) (pss_cons (ps_set (i := 10) sc_shape_at.nd rfl (Or.inl rfl) (pe_callTy (r := rTupleOf K) cr_tupleOf (by rfl) T.m_tuple (by decide +kernel) (pa_cons (pe_lc rfl sc_shape_at.nd (show PI _ _ _ (iList K _) from pi_list (pv 6)) (blkOk_by (N := N_shape_at) (sc := defScope s_shape_at) (own := [("other", 11)]) (by decide +kernel)) (fun _ _ _ _ _ => (pg_name (i := 11) sc_shape_at.nd rfl (Or.inl rfl))) (fun _ _ _ _ _ => (pts_one (PW.pt (pw_and (pt_cmpR (r := rIn K false) op_in_seq (pv 11) (pe_dget (hu_of hr) (pv 8) (pv 7) (fun _ _ => rfl)) (by rfl)) (pw_and1 (pt_cmpR (r := rIn K false) op_in_seq (pv 7) (pe_dget (hu_of hr) (pv 8) (pv 11) (fun _ _ => rfl)) (by rfl))))))) (fun _ _ _ _ _ => (pv 11))) pa_nil)))
 (pss_one (ps_if (pt_cmpR (r := rNotInD K) (op_notInD (units65 hr)) (pv 10) (pv 9) (by rfl)) (pss_one (ps_expr (pe_bm PySem.F.plainAttrs_list PySem.F.slot_list_append PySem.F.type_list_append mt_append (pv 9) (pa_cons (pv 10) pa_nil)))) pss_nil))))
 (pss_cons (ps_set (i := 12) sc_shape_at.nd rfl (Or.inl rfl) (pe_lst pa_nil))
 (pss_cons (ps_for PassesOwn.never rfl (pi_range1 (by rfl) T.m_range (pa_cons (pe_callB (r := rLenS K) cr_lenS (by rfl) T.m_len (by decide +kernel) (pa_cons (pv 9) pa_nil)) pa_nil)) (pg_name (i := 13) sc_shape_at.nd rfl (Or.inl rfl)) (pss_one (ps_for PassesOwn.never rfl (pi_range1 (by rfl) T.m_range (pa_cons (pe_callB (r := rLenS K) cr_lenS (by rfl) T.m_len (by decide +kernel) (pa_cons (pv 9) pa_nil)) pa_nil)) (pg_name (i := 11) sc_shape_at.nd rfl (Or.inl rfl)) (pss_one (ps_if (PW.pt (pw_and (pt_cmpR op_ne (pv 13) (pv 11) (nomark _)) (pw_and1 (pt_cmpR (r := rIn K false) op_in_seq (pe_ix (r := rIxT K) ix_tup (pe_ix (r := rIxL K) ix_list (pv 9) (pv 11) (fun _ _ => rfl)) pe_int (fun _ _ => rfl)) (pe_dget (hu_of hr) (pv 8) (pe_ix (r := rIxT K) ix_tup (pe_ix (r := rIxL K) ix_list (pv 9) (pv 13) (fun _ _ => rfl)) pe_int (fun _ _ => rfl)) (fun _ _ => rfl)) (by rfl))))) (pss_one (ps_expr (pe_bm PySem.F.plainAttrs_list PySem.F.slot_list_append PySem.F.type_list_append mt_append (pv 12) (pa_cons (pe_tup (pa_cons (pv 13) (pa_cons (pv 11) pa_nil))) pa_nil)))) pss_nil)))))
 (pss_one (ps_ret (pe_tup (pa_cons (pv 3) (pa_cons (pe_callTy (r := rTupleOf K) cr_tupleOf (by rfl) T.m_tuple (by decide +kernel) (pa_cons (pv 9) pa_nil)) (pa_cons (pe_callTy (r := rTupleOf K) cr_tupleOf (by rfl) T.m_tuple (by decide +kernel) (pa_cons (pv 12) pa_nil)) pa_nil)))))))))))))))), ?_⟩
  walk_at "nk"
  obtain ⟨v1, v2, rfl, h1, h2⟩ := oall2 ha
  obtain ⟨W, L⟩ := a
  have hw : WebOk W := hp.1
  have hl : PrOk W L := hp.2
  have h1 : Im K H v1 (webD W) := h1
  have h2 : Im K H v2 (frD L) := h2
  refine q_set (ev_stream_at (ev_varI (i := 0) rfl h1) (ev_varI (i := 1) rfl h2) hw hl) fun u2 H1 s1 p1 => ?_
  obtain ⟨st, hm, p1⟩ := p1
  have p1 : Im K H1 u2 (streamD L.2 st) := p1
  let a : Wls := ⟨W, L, st⟩
  have ok : a.Ok := ⟨hw, hl, hm⟩
  have e0 : ∀ {σ : L2.St} {H9 : Hp}, σ[0]? = some (some v1) → Same H H9 → Ev (tVar 0) σ H9 (oI K (webD a.W)) := fun e s => ev_varI e (Im.same s h1)
  have e1 : ∀ {σ : L2.St} {H9 : Hp}, σ[1]? = some (some v2) → Same H H9 → Ev (tVar 1) σ H9 (oI K (frD a.L)) := fun e s => ev_varI e (Im.same s h2)
  have e2 : ∀ {σ : L2.St} {H9 : Hp}, σ[2]? = some (some u2) → Same H1 H9 → Ev (tVar 2) σ H9 (oI K (streamD a.L.2 a.s)) := fun e s => ev_varI e (Im.same s p1)
  refine q_set (ev_led_to a (e0 rfl s1) (e1 rfl s1) (e2 rfl (Same.refl _)) ok) fun u3 H2 s2 p2 => ?_
  obtain ⟨lo, c1, p2⟩ := p2
  have p2 : Im K H2 u3 (.tuple (lo.map .str)) := p2
  have s02 := s1.trans s2
  refine q_set (ev_led_from a (e0 rfl s02) (e1 rfl s02) (e2 rfl s2) ok) fun u4 H3 s3 p3 => ?_
  obtain ⟨le, c2, p3⟩ := p3
  have p3 : Im K H3 u4 (.tuple (le.map .str)) := p3
  have s03 := s02.trans s3
  refine q_set (ev_ways_left a (e0 rfl s03) (e1 rfl s03) (e2 rfl (s2.trans s3)) ok) fun u5 H4 s4 p4 => ?_
  have s04 := s03.trans s4
  let fm := fam a.W a.L.1 a.L.2
  let bt := btwOf W.names fm
  have hbt : bt = W.names.filter fun x => !decide (x ∈ lo) && !decide (x ∈ le) := (btw_filter ok c1 c2).symm
  have lbt : bt.length ≤ 8 := btw_len hw _
  have fo := ok.fam
  refine q_set (ev_lcm (K := K) (es := bt.map .str) W.names (fun x => .str x) (fun x => !decide (x ∈ lo) && !decide (x ∈ le)) (fun x => .str x) (evi_tup (ev_names_of (W := W) (e0 rfl s04) hw)) (Nat.le_trans (names_len hw) (by decide))
    (fun x v H5 hx s p => ⟨rfl, Same.refl _, evb_and (evb_test (ev_inS (K := K) (neg := true) (ev_varI (i := 7) rfl p) (ev_varI (i := 3) rfl (Im.same ((s3.trans s4).trans s) p2)).qT)) fun _ => evb_test (ev_inS (K := K) (neg := true) (ev_varI (i := 7) rfl p) (ev_varI (i := 4) rfl (Im.same (s4.trans s) p3)).qT), fun _ => ev_varI (i := 7) rfl p⟩) gm_name (by rw [← hbt])) fun u6 H5 s5 p5 => ?_
  obtain ⟨lb, xb, rfl, nb, eb, ib⟩ := p5
  obtain rfl := ib.strs
  have s05 := s04.trans s5
  have btn : ∀ x ∈ bt, x ∈ W.names := fun x hx => (mem_btw.mp hx).1
  refine q_set (ev_dictR (K := K) (names := bt) (rel := fun x ds => ∃ fs : List Str, ds = fs.map PyData.str ∧ IsClo a.ways [x] fs) (List.Nodup.sublist (List.filter_sublist) (Ris.nodup sto_str hw.nm.ris)) (ev_rows (i := 7) bt (by omega) (evi_sL (evi_list (ev_varL (i := 6) rfl eb (ImAll.of_strs bt)))) _ (fun _ => rfl) (fun _ => rfl)
    fun x H6 hx s6 => (ev_reached ⟨W.names, a.ways, x⟩ (ev_var (i := 5) rfl ((oDk K W.names (wlD a.ways)).mono _ _ _ (s5.trans s6) p4)) (ev_varI (i := 7) rfl (Im.str _)) ⟨names_len hw, ok.rb1.lw, btn x hx, fun p hpm => (fo.inW p hpm).2⟩).imp fun v H7 s7 ⟨fs, hc, pp⟩ => ⟨fs.map PyData.str, ⟨fs, rfl, hc⟩, pp⟩)) fun u8 H6 s6 p6 => ?_
  obtain ⟨d, kvs, R, rfl, nd0, M, hk, _, _⟩ := p6
  have s06 := s05.trans s6
  have eb6 := s6 _ _ eb
  have DL : DictL K H6 d R kvs := M.l
  -- what the dict tells
  have tell : ∀ x ∈ bt, ∃ fs : List Str, R x = fs.map PyData.str ∧ ∀ y ∈ bt, decide (y ∈ fs) = leB fm x y := fun x hx => by
    obtain ⟨_, fs, e, hc⟩ := hk x hx
    refine ⟨fs, e, fun y hy => ?_⟩
    have iff := le_iff fo c1.1 c2.1 (x := x) (y := y) (mem_btw.mp hx).2.2 (mem_btw.mp hy).2.1 hc
    unfold leB
    cases z : cdec (Le fm x y) with
    | true => exact decide_eq_true (iff.mpr (cdec_iff.mp z))
    | false => exact decide_eq_false fun q => cdec_no.mp z (iff.mp q)
  have strOk : ∀ x ∈ bt, PyData.strOk x = true := fun x hx => hw.sk x (btn x hx)
  refine q_set (ev_nil (K := K)) fun u9 H7 s7 p7 => ?_
  obtain ⟨lk, xk, rfl, nk, ek, ik⟩ := p7
  cases ik
  have eb7 := s7 _ _ eb6
  -- led[x], at any time
  have led : ∀ {σ : L2.St} {H9 : Hp} {i : Nat} {x : Str}, x ∈ bt → σ[8]? = some (some (.ref d)) → σ[i]? = some (some (.str x)) → Same H6 H9 → Ev (tDGet (tVar 8) (tVar i)) σ H9 (oL K (R x)) := fun hx e e' s => ev_dget1 (ev_varV e) (ev_varI e' (Im.str _)) (DL.same s) (hk _ hx).1
  let bsTo : Nat → List (List Str) := fun i => (bt.take i).foldl (fun bs x => addNew bs (blockOf W.names fm x)) []
  have blen : ∀ i, (bsTo i).length ≤ 8 := fun i => by
    have h := fold_len (blockOf W.names fm) (bt.take i) []
    rw [List.length_nil, List.length_take] at h
    show ((bt.take i).foldl _ []).length ≤ 8
    omega
  have bsub : ∀ i, ∀ l ∈ bsTo i, ∀ x ∈ l, x ∈ bt := fun i l hl x hx => by
    rcases (fold_new (blockOf W.names fm) (bt.take i) [] l).mp hl with q | ⟨y, _, rfl⟩
    · exact absurd q (by simp)
    · exact (mem_blockOf.mp hx).1
  refine q_forA (evi_listA (K := K) (ev_varV (i := 6) rfl) eb7 (ImAll.of_strs bt)) fun H8 s8 => ?_
  refine ⟨fun i σ' H' => ∃ x7 x10 x11 xs, σ' = [some v1, some v2, some u2, some u3, some u4, some u5, some (.ref lb), x7, some (.ref d), some (.ref lk), x10, x11, none, none] ∧ Same H6 H' ∧ TupKeep H8 H' ∧ H' lk = some (.lst xs) ∧ ImAll K H' xs ((bsTo i).map strsD),
    ⟨_, _, _, [], rfl, s7.trans s8, TupKeep.refl _, s8 _ _ ek, .nil⟩, fun i σ' H' ⟨_, _, _, _, _, k1, k2, _⟩ => ⟨k2, k1 _ _ eb6⟩, ?_, ?_⟩
  · rintro i dd y σ' H' H'' hd ⟨x7, x10, x11, xs, rfl, sH, tk, ek', ik⟩ smm hy
    obtain ⟨x, hx, rfl, hxm⟩ := get_map hd
    obtain rfl := Im.str_inv hy
    obtain ⟨fx, ex, tx⟩ := tell x hxm
    have sH2 := sH.trans smm
    show tSeq _ _ _ _ _
    refine q_set (ev_tupleL (Ev.ls (ev_lcmL (K := K) (es := (blockOf W.names fm x).map .str) bt (fun o => .str o) (fun o => leB fm x o && leB fm o x) (fun o => .str o) (evi_list (ev_varL (i := 6) rfl (sH2 _ _ eb6) (ImAll.of_strs bt))) (by omega)
      (fun o v H9 ho s p => ?_) gm_name rfl))) fun u10 H9 s9 p9 => ?_
    · obtain rfl := Im.str_inv p
      refine ⟨rfl, Same.refl _, ?_, fun _ => ev_varI (i := 11) rfl (Im.str _)⟩
      obtain ⟨fo', eo, to⟩ := tell o ho
      have d1 := led (i := 7) hxm (σ := ((wipe ([some v1, some v2, some u2, some u3, some u4, some u5, some (V.ref lb), x7, some (V.ref d), some (V.ref lk), x10, x11, none, none].set 7 (some (V.str x))) (List.map (fun x => x.snd) [(Str.ofString "other", 11)])).set 11 (some (V.str o)))) rfl rfl (sH2.trans s)
      have d2 := led (i := 11) ho (σ := ((wipe ([some v1, some v2, some u2, some u3, some u4, some u5, some (V.ref lb), x7, some (V.ref d), some (V.ref lk), x10, x11, none, none].set 7 (some (V.str x))) (List.map (fun x => x.snd) [(Str.ofString "other", 11)])).set 11 (some (V.str o)))) rfl rfl (sH2.trans s)
      rw [ex] at d1
      rw [eo] at d2
      refine evb_and (evb_is (evb_test (ev_inS (K := K) (neg := false) (ev_varI (i := 11) rfl (Im.str _)) d1.qL)) (tx o ho)) fun _ => evb_is (evb_test (ev_inS (K := K) (neg := false) (ev_varI (i := 7) rfl (Im.str _)) d2.qL)) (to x hxm)
    · have p9 : Im K H9 u10 (strsD (blockOf W.names fm x)) := p9
      have nxt : bsTo (i + 1) = addNew (bsTo i) (blockOf W.names fm x) := by
        show (bt.take (i + 1)).foldl _ [] = _
        rw [List.take_add_one, hx, List.foldl_append]
        rfl
      have ekk := s9 _ _ (smm _ _ ek')
      refine s_when (evb_test (ev_notInRows (K := K) (ev_varI (i := 10) rfl p9) (ev_varL (i := 9) rfl ekk (ik.same (smm.trans s9))) (fun z hz => strOk z (mem_blockOf.mp hz).1) fun l hl z hz => strOk z (bsub i l hl z hz))) (fun hb H10 s10 => ?_) fun hb H10 s10 => ?_
      · have hn : blockOf W.names fm x ∉ bsTo i := fun q => by
          rw [decide_eq_true q] at hb
          cases hb
        refine s_app (s10 _ _ ekk) (ev_varV (i := 9) rfl) (P := oI K (strsD (blockOf W.names fm x))) (ev_varI (i := 10) rfl (Im.same s10 p9)) (by rw [ik.length, List.length_map]; have := blen i; omega) fun u H11 s11 p11 => ?_
        have k12 : TupKeep H11 (upd H11 lk (.lst (xs ++ [u]))) := tk_upd (s11 _ _ (s10 _ _ ekk)) trivial
        refine ⟨_, _, _, _, rfl, same_mut (((sH2.trans s9).trans s10).trans s11) nk, (tk.trans (tk_same (((smm.trans s9).trans s10).trans s11))).trans k12, upd_same, ?_⟩
        rw [nxt]
        unfold addNew
        rw [if_neg hn, List.map_append]
        exact ((ik.same (((smm.trans s9).trans s10).trans s11)).keep k12).snoc (Im.keep k12 p11)
      · have hn : blockOf W.names fm x ∈ bsTo i := by
          by_cases q : blockOf W.names fm x ∈ bsTo i
          · exact q
          · rw [decide_eq_false q] at hb
            cases hb
        refine ⟨_, _, _, _, rfl, (sH2.trans s9).trans s10, tk.trans (tk_same ((smm.trans s9).trans s10)), s10 _ _ ekk, ?_⟩
        rw [nxt]
        unfold addNew
        rw [if_pos hn]
        exact ik.same ((smm.trans s9).trans s10)
  · rintro σ' H' ⟨x7, x10, x11, xs, rfl, sH, tk, ek', ik⟩
    let bs := blocksOf W.names fm
    have ebs : bsTo (bt.map PyData.str).length = bs := by
      show (bt.take (bt.map PyData.str).length).foldl _ [] = _
      rw [List.length_map, List.take_length]
      rfl
    rw [ebs] at ik
    have lbs : bs.length ≤ 8 := blocks_len hw fm
    have lxs : xs.length = bs.length := by rw [ik.length, List.length_map]
    refine q_set (ev_nil (K := K)) fun u12 H10 s10 p10 => ?_
    obtain ⟨lr, xr, rfl, nr, er, ir⟩ := p10
    cases ir
    have ek10 := s10 _ _ ek'
    have nr6 : H6 lr = none := sH.free nr
    have nkr : lk ≠ lr := ne_of_none ek' nr
    -- the heads
    have heads : ∀ (i : Nat), i < bs.length → ∃ x r, bs[i]? = some (x :: r) ∧ x ∈ bt := fun i hi => by
      obtain ⟨x, r, e⟩ := blk_at (names := W.names) (L := fm) hi
      exact ⟨x, r, e, (block_of_mem (List.mem_of_getElem? e) List.mem_cons_self).1⟩
    have rng : ∀ {σ : L2.St} {H9 : Hp} {ys : List V}, σ[9]? = some (some (.ref lk)) → H9 lk = some (.lst ys) → ImAll K H9 ys (bs.map strsD) → EvI K (iRng1 (tCons (tCB (rLenS K) (tCons (tVar 9) tNil)) tNil)) σ H9 ((List.range bs.length).map fun (i : Nat) => PyData.int i) := fun e e' i => by
      have := evi_rng1 (K := K) (ev_lenL (ds := bs.map strsD) (ev_varL e e' i)) ⟨by omega, by rw [List.length_map]; omega⟩
      rw [List.length_map] at this
      exact this
    have ar : ∀ i j, ((pairsTo bs.length i j).filter (arrowOk fm bs)).length ≤ i * bs.length + j := fun i j => by
      rw [← pairs_len]
      exact List.length_filter_le _ _
    refine q_for (rng rfl ek10 (ik.same s10)) fun H11 s11 => ?_
    refine ⟨fun i σ' H' => ∃ x7 x10 x11 x13 zs, σ' = [some v1, some v2, some u2, some u3, some u4, some u5, some (.ref lb), x7, some (.ref d), some (.ref lk), x10, x11, some (.ref lr), x13] ∧ Same H6 H' ∧ TupKeep H11 H' ∧ H' lk = some (.lst xs) ∧ H' lr = some (.lst zs) ∧ ImAll K H' zs (((pairsTo bs.length i 0).filter (arrowOk fm bs)).map pairND),
      ⟨_, _, _, _, [], rfl, (sH.trans s10).trans s11, TupKeep.refl _, s11 _ _ ek10, s11 _ _ er, by show ImAll K H11 [] ((List.filter _ (pairsTo bs.length 0 0)).map pairND); exact .nil⟩, fun i σ' H' ⟨_, _, _, _, _, _, _, k, _⟩ => k, ?_, ?_⟩
    · rintro i dd y σ' H' H'' hd ⟨x7, x10, x11, x13, zs, rfl, sH', tk', ek2, er2, ir2⟩ smm hy
      obtain ⟨i', hi', rfl, him⟩ := get_map hd
      have hib := List.mem_range.mp him
      obtain rfl : i' = i := by
        have := List.getElem?_eq_some_iff.mp hi'
        obtain ⟨_, e⟩ := this
        rw [List.getElem_range] at e
        exact e.symm
      obtain rfl := Im.int_inv hy
      obtain ⟨hx, rx, ehx, hxb⟩ := heads i' hib
      have iks : ∀ {H9 : Hp}, TupKeep H11 H9 → ImAll K H9 xs (bs.map strsD) := fun s => (ik.same (s10.trans s11)).keep s
      refine s_for (rng rfl (smm _ _ ek2) (iks (tk'.trans (tk_same smm)))) fun H12 s12 => ?_
      refine ⟨fun j σ' H' => ∃ x7 x10 x11 zs, σ' = [some v1, some v2, some u2, some u3, some u4, some u5, some (.ref lb), x7, some (.ref d), some (.ref lk), x10, x11, some (.ref lr), some (.int (i' : Nat))] ∧ Same H6 H' ∧ TupKeep H12 H' ∧ H' lk = some (.lst xs) ∧ H' lr = some (.lst zs) ∧ ImAll K H' zs (((pairsTo bs.length i' j).filter (arrowOk fm bs)).map pairND),
        ⟨_, _, _, zs, rfl, (sH'.trans smm).trans s12, TupKeep.refl _, s12 _ _ (smm _ _ ek2), s12 _ _ (smm _ _ er2), ir2.same (smm.trans s12)⟩, fun i σ' H' ⟨_, _, _, _, _, _, k, _⟩ => k, ?_, ?_⟩
      · rintro j dd y σ' H' H'' hd ⟨x7, x10, x11, zs, rfl, sH3, tk3, ek3, er3, ir3⟩ sm3 hy
        obtain ⟨j', hj', rfl, hjm⟩ := get_map hd
        have hjb := List.mem_range.mp hjm
        obtain rfl : j' = j := by
          obtain ⟨_, e⟩ := List.getElem?_eq_some_iff.mp hj'
          rw [List.getElem_range] at e
          exact e.symm
        obtain rfl := Im.int_inv hy
        obtain ⟨hy, ry, ehy, hyb⟩ := heads j' hjb
        obtain ⟨fx, ex, tx⟩ := tell hx hxb
        have tkk : TupKeep H11 H'' := (((tk'.trans (tk_same smm)).trans (tk_same s12)).trans tk3).trans (tk_same sm3)
        have hd1 : ∀ {σ : L2.St} {H9 : Hp} {i k : Nat} {x : Str} {r : List Str}, Same H'' H9 → σ[9]? = some (some (.ref lk)) → σ[i]? = some (some (.int (k : Nat))) → bs[k]? = some (x :: r) → Ev (tOp (rIxT K) (tOp (rIxL K) (tVar 9) (tVar i)) (tC (.int 0))) σ H9 (oI K (.str x)) := fun {σ H9 i k x r} s e e' eb =>
          ev_ixT (i := 0) (ds := (x :: r).map .str) (ev_ixL (d := strsD (x :: r)) (ev_varL e (s _ _ (sm3 _ _ ek3)) (iks (tkk.trans (tk_same s)))) (ev_varI e' (Im.int _)) (atI_nat (by rw [List.getElem?_map, eb]; rfl))) ev_int (atI_nat (j := 0) rfl)
        have okE : arrowOk fm bs (i', j') = (!decide ((i' : Int) = (j' : Int)) && leB fm hx hy) := by
          unfold arrowOk
          dsimp only
          rw [ehx, ehy]
          show (decide (i' ≠ j') && leB fm hx hy) = _
          congr 1
          by_cases q : i' = j'
          · subst q
            simp
          · have q2 : ¬ (i' : Int) = (j' : Int) := fun z => q (Int.ofNat.inj z)
            rw [decide_eq_true q, decide_eq_false q2]
            rfl
        show tIfS _ _ _ _ _ _
        refine s_when (b := arrowOk fm bs (i', j')) (evb_is (evb_and (evb_test (ev_neI (K := K) (ev_varI (i := 13) rfl (Im.int _)) (ev_varI (i := 11) rfl (Im.int _)))) fun _ => evb_is (evb_test (ev_inS (K := K) (neg := false) (xs := fx) (hd1 (i := 11) (Same.refl _) rfl rfl ehy) ?_)) (tx hy hyb)) okE.symm) (fun hb H13 s13 => ?_) fun hb H13 s13 => ?_
        · refine (Ev.imp (ev_dget1 (R := R) (x := hx) (ev_varV (i := 8) rfl) (hd1 (i := 13) (Same.refl _) rfl rfl ehx) (DL.same (sH3.trans sm3)) (hk hx hxb).1) fun v H9 s9 p9 => ?_).qL
          have p9 : LsAt K H9 v (R hx) := p9
          rw [ex] at p9
          exact p9
        · have er4 := s13 _ _ (sm3 _ _ er3)
          refine s_app er4 (ev_varV (i := 12) rfl) (P := oI K (pairND (i', j'))) (ev_tup2 (ev_varI (i := 13) rfl (Im.int _)) (ev_varI (i := 11) rfl (Im.int _))) (by rw [ir3.length, List.length_map]; have := ar i' j'; have : i' * bs.length ≤ 8 * 8 := Nat.mul_le_mul (by omega) lbs; omega) fun u H14 s14 p14 => ?_
          have k15 : TupKeep H14 (upd H14 lr (.lst (zs ++ [u]))) := tk_upd (s14 _ _ er4) trivial
          refine ⟨_, _, _, _, rfl, same_mut (((sH3.trans sm3).trans s13).trans s14) nr6, (tk3.trans (tk_same ((sm3.trans s13).trans s14))).trans k15, ?_, upd_same, ?_⟩
          · rw [upd_ne nkr]
            exact s14 _ _ (s13 _ _ (sm3 _ _ ek3))
          · rw [pairs_succ, filter_snoc, if_pos hb, List.map_append]
            exact ((ir3.same ((sm3.trans s13).trans s14)).keep k15).snoc (Im.keep k15 p14)
        · refine ⟨_, _, _, _, rfl, (sH3.trans sm3).trans s13, tk3.trans (tk_same (sm3.trans s13)), s13 _ _ (sm3 _ _ ek3), s13 _ _ (sm3 _ _ er3), ?_⟩
          rw [pairs_succ, filter_snoc, if_neg (by rw [hb]; decide), List.append_nil]
          exact ir3.same (sm3.trans s13)
      · rintro σ' H' ⟨x7, x10, x11, zs, rfl, sH3, tk3, ek3, er3, ir3⟩
        rw [List.length_map, List.length_range] at ir3
        refine ⟨_, _, _, _, zs, rfl, sH3, ((tk'.trans (tk_same smm)).trans (tk_same s12)).trans tk3, ek3, er3, ?_⟩
        rw [pairs_next]
        exact ir3
    · rintro σ' H' ⟨x7, x10, x11, x13, zs, rfl, sH', tk', ek2, er2, ir2⟩
      rw [List.length_map, List.length_range, pairs_all] at ir2
      have lowE := (clo_low ok c1).1
      refine s_ret (ev_tup3 (ev_varI (i := 3) rfl (Im.same (((s3.trans s4).trans s5).trans (s6.trans sH')) p2)) (ev_tupleL (ev_varL (i := 9) rfl ek2 ((ik.same (s10.trans s11)).keep tk'))) (ev_tupleL (ev_varL (i := 12) rfl er2 ir2))) fun v H15 s15 p15 => q v H15 ((s06.trans sH').trans s15) ?_
      have p15 : Im K H15 v (.tuple [strsD lo, .tuple (bs.map strsD), .tuple (((pairsN bs.length).filter (arrowOk fm bs)).map pairND)]) := p15
      rw [lowE] at p15
      exact p15
theorem ev_shape_at {σ : L2.St} {H : Hp} {ta tb : TE} {W : Web} {L : Fr} (h : Ev ta σ H (oI K (webD W))) (k : Ev tb σ H (oI K (frD L))) (hw : WebOk W) (hl : PrOk W L) : Ev (tCall (sp_shape_at K) [] E0 (tCons ta (tCons tb tNil))) σ H (oI K (shapeD (shapeOf W.names (fam W L.1 L.2)))) := ev_call (W, L) (eva_cons h (eva_cons k eva_nil)) ⟨hw, hl⟩
end
end Cut
end
section
namespace Cut
open PySem PySem.Spec PyProof.Rows L2
local macro_rules | `(tactic| walk_at "nk") => `(tactic| first | dsimp only [cxOf, Cx.nox, Cx.wish, Cx.blk] | skip)
local macro_rules | `(tactic| walk_at "im") => `(tactic| first
  | assumption
  | exact Im.int _ | exact Im.str _ | exact Im.bl _ | exact Im.non
  | (refine Im.same (by assumption) ?_; walk_at "im"))
local macro_rules | `(tactic| walk_at "side") => `(tactic| first | assumption | rfl | omega)
local macro_rules | `(tactic| walk_at "ev") => `(tactic| first
  | (with_reducible exact ev_int) | (with_reducible exact ev_str) | (with_reducible exact ev_bl) | (with_reducible exact ev_non)
  | ((with_reducible apply ev_varI); rfl; walk_at "im")
  | ((with_reducible apply ev_ixT); walk_at "ev"; walk_at "ev"; walk_at "side")
  | ((with_reducible apply ev_add); walk_at "ev"; walk_at "ev")
  | ((with_reducible apply ev_sub); walk_at "ev"; walk_at "ev")
  | ((with_reducible apply ev_mul); walk_at "ev"; walk_at "ev"; walk_at "side")
  | ((with_reducible apply ev_div); walk_at "ev"; walk_at "ev"; walk_at "side")
  | ((with_reducible apply ev_mod); walk_at "ev"; walk_at "ev"; walk_at "side")
  | ((with_reducible apply ev_eqI); walk_at "ev"; walk_at "ev")
  | ((with_reducible apply ev_neI); walk_at "ev"; walk_at "ev")
  | ((with_reducible apply ev_eqS); walk_at "ev"; walk_at "ev")
  | ((with_reducible apply ev_neS); walk_at "ev"; walk_at "ev")
  | ((with_reducible apply ev_cmp); walk_at "ev"; walk_at "ev")
  | ((with_reducible apply ev_tup1); walk_at "ev")
  | ((with_reducible apply ev_tup2); walk_at "ev"; walk_at "ev")
  | ((with_reducible apply ev_tup3); walk_at "ev"; walk_at "ev"; walk_at "ev")
  | ((with_reducible apply ev_tup4); walk_at "ev"; walk_at "ev"; walk_at "ev"; walk_at "ev")
  | ((with_reducible apply ev_tup5); walk_at "ev"; walk_at "ev"; walk_at "ev"; walk_at "ev"; walk_at "ev")
  | ((with_reducible apply ev_lenT); walk_at "ev")
  | ((with_reducible apply ev_abs); walk_at "ev")
  | ((with_reducible apply ev_tupleL); walk_at "ev")
  | ((with_reducible apply ev_notV); walk_at "ev")
  | assumption)

/-! sets of blocks -/
abbrev natsD (l : List Nat) : PyData := .tuple (l.map fun (i : Nat) => PyData.int i)
theorem nats_int (l : List Nat) : l.map (fun (i : Nat) => PyData.int i) = (l.map fun (i : Nat) => (i : Int)).map .int := by
  rw [List.map_map]
  rfl
theorem mem_nats {i : Nat} {l : List Nat} : decide ((i : Int) ∈ l.map fun (j : Nat) => (j : Int)) = decide (i ∈ l) := by
  refine decide_eq_decide.mpr ⟨fun h => ?_, fun h => List.mem_map.mpr ⟨i, h, rfl⟩⟩
  obtain ⟨j, hj, e⟩ := List.mem_map.mp h
  have : j = i := Int.ofNat.inj e
  rw [← this]
  exact hj
theorem subsN_len (n : Nat) : (subsN n).length = 2 ^ n := by
  induction n with
  | zero => rfl
  | succ n ih =>
    show (subsN n ++ (subsN n).map (· ++ [n])).length = _
    rw [List.length_append, List.length_map, ih, Nat.pow_succ]
    omega
theorem all_closed (arrows : List (Nat × Nat)) (some : List Nat) : ((arrows.filter fun p => decide (p.1 ∈ some)).map fun p => decide (p.2 ∈ some)).all id = closedSet arrows some := by
  unfold closedSet
  rw [List.all_map]
  induction arrows with
  | nil => rfl
  | cons p l ih =>
    rw [List.filter_cons, List.all_cons]
    by_cases h : p.1 ∈ some
    · rw [if_pos (decide_eq_true h), List.all_cons, ih]
      congr 1
      exact decide_eq_decide.mpr ⟨fun z _ => z, fun z => z h⟩
    · rw [if_neg (by rw [decide_eq_false h]; decide), ih]
      have : decide (p.1 ∈ some → p.2 ∈ some) = true := decide_eq_true fun z => absurd z h
      rw [this]
      rfl
structure ShOk (s : Shp Str) : Prop where
  lb : s.blocks.length ≤ 8
  la : s.arrows.length ≤ 100
section
variable {K : PySem.W.Frag} {σ : L2.St} {H : Hp} {te ta tb : TE} {D : Ends} {tz : TS}
theorem ev_inNat {neg : Bool} {i : Nat} {l : List Nat} (h : Ev ta σ H (oI K (.int (i : Nat)))) (k : Ev tb σ H (oI K (natsD l))) : Ev (tOp (rIn K neg) ta tb) σ H (oI K (.bool (if neg then !decide (i ∈ l) else decide (i ∈ l)))) := by
  have k' : Ev tb σ H (oQ K ((l.map fun (i : Nat) => (i : Int)).map .int)) := by
    rw [← nats_int]
    exact k.qT
  have := ev_inN (neg := neg) h k'
  rw [mem_nats] at this
  exact this
theorem s_extT {l : Addr} {xs : List V} {ds : List PyData} (hl : H l = some (.lst xs)) (ha : Ev ta σ H (oV (.ref l))) (h : Ev te σ H (oI K (.tuple ds))) (hz : xs.length + ds.length ≤ 100000) (k : ∀ ys H1, Same H H1 → ImAll K H1 ys ds → D.nx σ (upd H1 l (.lst (xs ++ ys)))) :
    tDrop (tBM K "list" (rExtT K) ta (tCons te tNil)) D σ H := ha H (Same.refl H) _ fun x H1 s1 e1 => by
  obtain rfl : x = .ref l := e1
  refine ⟨.inl ⟨rfl, _, SqL.of (s1 _ _ hl)⟩, ?_⟩
  refine h H1 s1 _ fun v H2 s2 p2 => ?_
  obtain ⟨b, ys, rfl, hb, hi⟩ := Im.tup_inv p2
  exact ⟨l, b, xs, ys, rfl, rfl, s2 _ _ (s1 _ _ hl), hb, by rw [hi.length]; exact sz_le hz, k ys H2 (s1.trans s2) hi⟩
theorem q_extT {l : Addr} {xs : List V} {ds : List PyData} (hl : H l = some (.lst xs)) (ha : Ev ta σ H (oV (.ref l))) (h : Ev te σ H (oI K (.tuple ds))) (hz : xs.length + ds.length ≤ 100000) (k : ∀ ys H1, Same H H1 → ImAll K H1 ys ds → tz D σ (upd H1 l (.lst (xs ++ ys)))) :
    tSeq (tDrop (tBM K "list" (rExtT K) ta (tCons te tNil))) tz D σ H := s_extT (D := { D with nx := tz D }) hl ha h hz k
end
section
variable {P : Program} {w : World} {K : PySem.W.Frag} {mg : Str → Option Value} {base : Heap}
def sp_closed_sets (K : PySem.W.Frag) : Sp := spD (α := Shp Str) (fun s => [oI K (shapeD s)]) ShOk fun s => oL K ((closedSets s).map natsD)
theorem at_closed_sets (T : Tx K mg) : At P w K mg base 1 "closed_sets" ["shape"] (sp_closed_sets K) := by
  refine at_of T.d_closed_sets sc_closed_sets (fun _ => rfl) fun f cdv A outer s H vs Q E a hr hp ha q => ?_
  refine ⟨_, (pss_cons (ps_set (i := 1) sc_closed_sets.nd rfl (Or.inl rfl) (pe_lst (pa_cons (pe_tup pa_nil) pa_nil)))
 (pss_cons (ps_for PassesOwn.never rfl (pi_range1 (by rfl) T.m_range (pa_cons (pe_callB (r := rLenS K) cr_lenS (by rfl) T.m_len (by decide +kernel) (pa_cons (pe_ix (r := rIxT K) ix_tup (pv 0) pe_int (fun _ _ => rfl)) pa_nil)) pa_nil)) (pg_name (i := 2) sc_closed_sets.nd rfl (Or.inr rfl)) (pss_one (ps_set (i := 1) sc_closed_sets.nd rfl (Or.inl rfl) (pe_op op_cat (pv 1) (pe_lc rfl sc_closed_sets.nd (show PI _ _ _ (iList K _) from pi_list (pv 1)) (blkOk_by (N := N_closed_sets) (sc := defScope s_closed_sets) (own := [("some", 3)]) (by decide +kernel)) (fun _ _ _ _ _ => (pg_name (i := 3) sc_closed_sets.nd rfl (Or.inl rfl))) (fun _ _ _ _ _ => pts_nil) (fun _ _ _ _ _ => (pe_op (r := rCatA K) op_catA (pv 3) (pe_tup (pa_cons (pv 2) pa_nil)))))))))
 (pss_one (ps_ret (pe_lc rfl sc_closed_sets.nd (show PI _ _ _ (iList K _) from pi_list (pv 1)) (blkOk_by (N := N_closed_sets) (sc := defScope s_closed_sets) (own := [("some", 3)]) (by decide +kernel)) (fun _ _ _ _ _ => (pg_name (i := 3) sc_closed_sets.nd rfl (Or.inr rfl))) (fun _ _ _ _ _ => (pts_one (pt_val (pe_callB (r := rAll K) (cr_all rfl) (by rfl) T.m_all (by decide +kernel) (pa_cons (pe_lc rfl sc_closed_sets.nd (show PI _ _ _ (iTup K _) from pi_tup (pe_ix (r := rIxT K) ix_tup (pv 0) pe_int (fun _ _ => rfl))) (blkOk_by (N := N_closed_sets) (sc := ({ kind := ScopeKind.function, names := [(".0", NameKind.local), ("some", NameKind.cell), ("all", NameKind.globalImplicit), ("shape", NameKind.cell)], isGenerator := false, isCoroutine := false } : Scope)) (own := [("one", 4), ("other", 5)]) (by decide +kernel)) (fun _ _ _ _ _ => (show PG _ _ (gTup K 2 _) from pg_tup rfl (pgs_cons (pg_name (i := 4) sc_closed_sets.nd rfl (Or.inl rfl)) (pgs_cons (pg_name (i := 5) sc_closed_sets.nd rfl (Or.inl rfl)) pgs_nil)))) (fun _ _ _ _ _ => (pts_one (pt_cmpR (r := rIn K false) op_in_seq (pv 4) (pv 3) (by rfl)))) (fun _ _ _ _ _ => (pe_cmpR (r := rIn K false) op_in_seq (pv 5) (pv 3) (by rfl)))) pa_nil))))) (fun _ _ _ _ _ => (pv 3))))))), ?_⟩
  walk_at "nk"
  obtain ⟨v1, rfl, h1⟩ := oall1 ha
  have lb := hp.lb
  have la := hp.la
  have h1 : Im K H v1 (shapeD a) := h1
  have sh : ∀ {σ : L2.St} {H9 : Hp}, σ[0]? = some (some v1) → TupKeep H H9 → Ev (tVar 0) σ H9 (oI K (shapeD a)) := fun e s => ev_varI e (h1.keep s)
  refine q_set (ev_lstN (K := K) (ds := [natsD []]) (eva_cons (ev_tup0) eva_nil) (by simp)) fun u1 H1 s1 p1 => ?_
  have p1 : LsAt K H1 u1 ((subsN 0).map natsD) := LsNew.ls p1
  have rng : EvI K (iRng1 (tCons (tCB (rLenS K) (tCons (tOp (rIxT K) (tVar 0) (tC (.int 1))) tNil)) tNil)) [some v1, some u1, none, none, none, none] H1 ((List.range a.blocks.length).map fun (i : Nat) => PyData.int i) := by
    have := evi_rng1 (K := K) (σ := [some v1, some u1, none, none, none, none]) (ev_lenT (ev_ixT (i := 1) (ds := [strsD a.low, .tuple (a.blocks.map strsD), .tuple (a.arrows.map pairND)]) (sh (H9 := H1) rfl (tk_same s1)) ev_int rfl)) ⟨by omega, by rw [List.length_map]; omega⟩
    rw [List.length_map] at this
    exact this
  refine q_for rng fun H2 s2 => ?_
  refine ⟨fun i σ' H' => ∃ u x2 x3, i ≤ a.blocks.length ∧ σ' = [some v1, some u, x2, x3, none, none] ∧ Same H H' ∧ TupKeep H2 H' ∧ LsAt K H' u ((subsN i).map natsD), ⟨u1, none, none, Nat.zero_le _, rfl, s1.trans s2, TupKeep.refl _, p1.same s2⟩, fun i σ' H' ⟨_, _, _, _, _, _, k, _⟩ => k, ?_, ?_⟩
  · rintro i dd y σ' H' H'' hd ⟨u, x2, x3, _, rfl, sH, tk, pu⟩ smm hy
    obtain ⟨i', hi', rfl, him⟩ := get_map hd
    obtain rfl : i' = i := by
      obtain ⟨_, e⟩ := List.getElem?_eq_some_iff.mp hi'
      rw [List.getElem_range] at e
      exact e.symm
    have hib := List.mem_range.mp him
    obtain rfl := Im.int_inv hy
    have ln := subsN_len i'
    have pw : 2 ^ i' ≤ 2 ^ 7 := Nat.pow_le_pow_right (by decide) (by omega)
    refine s_set (ev_cat (K := K) (ds := (subsN i').map natsD) (es := ((subsN i').map (· ++ [i'])).map natsD) (ev_varLs (i := 1) rfl (pu.same smm)) (Ev.ls (ev_lcmLA (subsN i') natsD (fun l => natsD (l ++ [i'])) (evi_list (ev_varLs (i := 1) rfl (pu.same smm))) (by omega)
      (fun l v H3 hl s3 p3 => ⟨rfl, Same.refl _, ev_isD (ev_catT (ds := l.map fun (i : Nat) => PyData.int i) (es := [.int (i' : Nat)]) (ev_varI (i := 3) rfl p3) (ev_tup1 (ev_varI (i := 2) rfl (Im.int _))) ?_) (by show PyData.tuple _ = .tuple _; rw [List.map_append]; rfl)⟩) gm_name (by rw [List.map_map]; rfl))) (by rw [List.length_map, List.length_map, List.length_map, ln]; omega)) fun u3 H3 s3 p3 => ?_
    rotate_left
    · have := subsN_lt hl
      have nd : l.length ≤ i' := by
        obtain ⟨p, e⟩ := subsN_mem.mp hl
        rw [e]
        refine Nat.le_trans (List.length_filter_le _ _) ?_
        rw [List.length_range]
        exact Nat.le_refl _
      rw [List.length_map]
      show l.length + 1 ≤ 100000
      omega
    · refine ⟨u3, _, _, hib, rfl, (sH.trans smm).trans s3, tk.trans (tk_same (smm.trans s3)), ?_⟩
      have p3 := LsNew.ls p3
      rw [← List.map_append] at p3
      exact p3
  · rintro σ' H' ⟨u, x2, x3, _, rfl, sH, tk, pu⟩
    rw [List.length_map, List.length_range] at pu
    have ln := subsN_len a.blocks.length
    have pw : 2 ^ a.blocks.length ≤ 2 ^ 8 := Nat.pow_le_pow_right (by decide) lb
    refine s_ret (Ev.ls (ev_lcmL (K := K) (es := (closedSets a).map natsD) (subsN a.blocks.length) natsD (closedSet a.arrows) natsD (evi_list (ev_varLs (i := 1) rfl pu)) (by omega) (fun l v H3 hl s3 p3 => ⟨rfl, Same.refl _, ?_, fun _ => ev_varI (i := 3) rfl p3⟩) gm_name rfl)) fun v H3 s3 p3 => q v H3 (sH.trans s3) p3
    refine evb_is (evb_B (ev_all (K := K) (bs := (a.arrows.filter fun p => decide (p.1 ∈ l)).map fun p => decide (p.2 ∈ l)) (Ev.ls (ev_lcm a.arrows pairND (fun p => decide (p.1 ∈ l)) (fun p => .bool (decide (p.2 ∈ l)))
      (evi_tup (ev_ixT (i := 2) (ds := [strsD a.low, .tuple (a.blocks.map strsD), .tuple (a.arrows.map pairND)]) (sh rfl (tk_same (sH.trans s3))) ev_int rfl)) (by omega) (fun p v2 H4 hpm s4 p4 => g_names2 p4 fun u4 u5 k4 k5 => ⟨rfl, Same.refl _, ?_, fun _ => ?_⟩) (gm_tup (gm_cons gm_name (gm_cons gm_name gm_nil))) (by rw [List.map_map]; rfl))))) (all_closed a.arrows l)
    · exact evb_test (ev_inNat (neg := false) (ev_varI (i := 4) rfl k4) (ev_varI (i := 3) rfl (Im.same s4 p3)))
    · exact ev_inNat (neg := false) (ev_varI (i := 5) rfl k5) (ev_varI (i := 3) rfl (Im.same s4 p3))
theorem ev_closed_sets {σ : L2.St} {H : Hp} {ta : TE} (s : Shp Str) (h : Ev ta σ H (oI K (shapeD s))) (hp : ShOk s) : Ev (tCall (sp_closed_sets K) [] E0 (tCons ta tNil)) σ H (oL K ((closedSets s).map natsD)) := ev_call s (eva_cons h eva_nil) hp
theorem sh_ok {W : Web} (hw : WebOk W) (L : Fam Str) : ShOk (shapeOf W.names L) := by
  refine ⟨blocks_len hw L, ?_⟩
  show ((pairsN (blocksOf W.names L).length).filter _).length ≤ 100
  have h := blocks_len hw L
  have e : (pairsN (blocksOf W.names L).length).length = (blocksOf W.names L).length * (blocksOf W.names L).length := by
    rw [← pairs_all, pairs_len]
    omega
  refine Nat.le_trans (List.length_filter_le _ _) ?_
  rw [e]
  exact Nat.le_trans (Nat.mul_le_mul h h) (by decide)
noncomputable def sp_many_cuts (K : PySem.W.Frag) : Sp := spD (α := Web × Fr) (fun a => [oI K (webD a.1), oI K (frD a.2)]) (fun a => WebOk a.1 ∧ PrOk a.1 a.2) fun a => oI K (.int ((closedSets (shapeOf a.1.names (fam a.1 a.2.1 a.2.2))).length : Nat))
theorem at_many_cuts (T : Tx K mg) : At P w K mg base 10 "many_cuts" ["web", "price"] (sp_many_cuts K) := by
  refine at_of T.d_many_cuts sc_many_cuts (fun _ => rfl) fun f cdv A outer s H vs Q E a hr hp ha q => ?_
  refine ⟨_, (pss_one (ps_ret (pe_callB (r := rLenS K) cr_lenS (by rfl) T.m_len (by decide +kernel) (pa_cons (pe_at (at_closed_sets T) (hr.mono (by decide)) (by rfl) (pa_cons (pe_at (at_shape_at T) (hr.mono (by decide)) (by rfl) (pa_cons (pv 0) (pa_cons (pv 1) pa_nil))) pa_nil)) pa_nil)))), ?_⟩
  walk_at "nk"
  obtain ⟨v1, v2, rfl, h1, h2⟩ := oall2 ha
  refine s_ret (ev_isD (ev_lenL (ev_closed_sets _ (ev_shape_at (ev_varI (i := 0) rfl h1) (ev_varI (i := 1) rfl h2) hp.1 hp.2) (sh_ok hp.1 _))) ?_) q
  rw [List.length_map]
theorem ev_many_cuts {σ : L2.St} {H : Hp} {ta tb : TE} {W : Web} {L : Fr} (h : Ev ta σ H (oI K (webD W))) (k : Ev tb σ H (oI K (frD L))) (hw : WebOk W) (hl : PrOk W L) : Ev (tCall (sp_many_cuts K) [] E0 (tCons ta (tCons tb tNil))) σ H (oI K (.int ((closedSets (shapeOf W.names (fam W L.1 L.2))).length : Nat))) := ev_call (W, L) (eva_cons h (eva_cons k eva_nil)) ⟨hw, hl⟩
/-- the first cut told is the least of all -/
theorem cuts_first {W : Web} (L : Fam Str) : (∀ c ∈ cutsList W.names L, c ≠ []) ∨ ∃ r, cutsList W.names L = [] :: r := by
  have hs : ∀ n, ∃ r, subsN n = [] :: r := fun n => by
    induction n with
    | zero => exact ⟨[], rfl⟩
    | succ n ih =>
      obtain ⟨r, e⟩ := ih
      refine ⟨r ++ (subsN n).map (· ++ [n]), ?_⟩
      show subsN n ++ (subsN n).map (· ++ [n]) = _
      rw [e]
      rfl
  obtain ⟨r, e⟩ := hs (shapeOf W.names L).blocks.length
  have hc : closedSet (shapeOf W.names L).arrows [] = true := closed_iff.mpr fun p _ h => absurd h (by simp)
  have e2 : closedSets (shapeOf W.names L) = [] :: r.filter (closedSet (shapeOf W.names L).arrows) := by
    unfold closedSets
    rw [e, List.filter_cons, if_pos hc]
  have e3 : cutsList W.names L = cutOf W.names L [] :: (r.filter (closedSet (shapeOf W.names L).arrows)).map (cutOf W.names L) := by
    unfold cutsList
    rw [e2]
    rfl
  cases h : cutOf W.names L [] with
  | nil => exact .inr ⟨_, by rw [e3, h]⟩
  | cons x t =>
    refine .inl fun c hc z => ?_
    obtain ⟨some, _, rfl⟩ := List.mem_map.mp hc
    have hx : x ∈ cutOf W.names L [] := by rw [h]; exact List.mem_cons_self
    have hr := mem_raw.mp (mem_cutOf.mp hx)
    have hl : x ∈ W.names ∧ Low L x := by
      rcases hr with q | ⟨i, hi, _⟩
      · exact q
      · exact absurd hi (by simp)
    have : x ∈ cutOf W.names L some := mem_cutOf.mpr (mem_raw.mpr (.inl hl))
    rw [z] at this
    exact absurd this (by simp)
noncomputable def sp_cuts_at (K : PySem.W.Frag) : Sp := spD (α := Web × Fr) (fun a => [oI K (webD a.1), oI K (frD a.2)]) (fun a => WebOk a.1 ∧ PrOk a.1 a.2) fun a => oE (CutsAt a.1 a.2.1 a.2.2) fun ls => oL K (ls.map strsD)
theorem raw_take {s : Shp Str} {some : List Nat} {i j : Nat} {b : List Str} (h : some[i]? = Option.some j) (hb : s.blocks[j]? = Option.some b) : rawCut s (some.take (i + 1)) = rawCut s (some.take i) ++ b := by
  unfold rawCut
  rw [flat_take h, hb, List.append_assoc]
  rfl
theorem raw_len {W : Web} (hw : WebOk W) {L : Fam Str} {some : List Nat} (h : some ∈ subsN (blocksOf W.names L).length) : (rawCut (shapeOf W.names L) some).length ≤ 8 :=
  Nat.le_trans (nodup_len _ W.names (raw_nodup (Ris.nodup sto_str hw.nm.ris) h) fun x hx => raw_names hx) (names_len hw)
/-- tuple(sorted(names)) of a raw cut -/
theorem ev_norm {σ : L2.St} {H : Hp} {te : TE} {W : Web} (hw : WebOk W) {L : Fam Str} {some : List Nat} (hs : some ∈ subsN (blocksOf W.names L).length) (h : Ev te σ H (oL K ((rawCut (shapeOf W.names L) some).map .str))) :
    Ev (tCB (rTupleOf K) (tCons (tCB (rSortedS K) (tCons te tNil)) tNil)) σ H (oI K (strsD (cutOf W.names L some))) := ev_cb (eva_cons (ev_sortS h (by have := raw_len hw hs; omega)) eva_nil) fun vs H5 s5 p5 Q5 q5 => by
  obtain ⟨u, rfl, ss, ⟨pm, srt⟩, l, xs, rfl, nl, el, il⟩ := oall1 p5
  refine ⟨l, xs, rfl, .inl ⟨SqL.of el, fun t ht => q5 _ _ (same_new ht) ?_⟩⟩
  have e := norm_raw hw.nm.ris hs pm (ris_pw srt)
  show Im K _ _ (.tuple ((cutOf W.names L some).map .str))
  rw [← e]
  exact Im.tup (SqT.of upd_same) (il.same (same_new ht))
theorem at_cuts_at (T : Tx K mg) : At P w K mg base 10 "cuts_at" ["web", "price"] (sp_cuts_at K) := by
  refine at_of T.d_cuts_at sc_cuts_at (fun _ => rfl) fun f cdv A outer s H vs Q E a hr hp ha q => ?_
  refine ⟨_, (pss_cons (ps_set (i := 2) sc_cuts_at.nd rfl (Or.inl rfl) (pe_at (at_shape_at T) (hr.mono (by decide)) (by rfl) (pa_cons (pv 0) (pa_cons (pv 1) pa_nil))))
 (pss_cons (ps_set (i := 3) sc_cuts_at.nd rfl (Or.inl rfl) (pe_lst pa_nil))
 (pss_cons (ps_for PassesOwn.never rfl (show PI _ _ _ (iList K _) from pi_list (pe_at (at_closed_sets T) (hr.mono (by decide)) (by rfl) (pa_cons (pv 2) pa_nil))) (pg_name (i := 4) sc_cuts_at.nd rfl (Or.inl rfl)) (pss_cons (ps_set (i := 5) sc_cuts_at.nd rfl (Or.inl rfl) (pe_callTy (r := rListOf K) cr_listOf (by rfl) T.m_list (by decide +kernel) (pa_cons (pe_ix (r := rIxT K) ix_tup (pv 2) pe_int (fun _ _ => rfl)) pa_nil)))
 (pss_cons (ps_for PassesOwn.never rfl (show PI _ _ _ (iTup K _) from pi_tup (pv 4)) (pg_name (i := 6) sc_cuts_at.nd rfl (Or.inl rfl)) (pss_one (ps_expr (pe_bm PySem.F.plainAttrs_list PySem.F.slot_list_extend PySem.F.type_list_extend mt_extendT (pv 5) (pa_cons (pe_ix (r := rIxT K) ix_tup (pe_ix (r := rIxT K) ix_tup (pv 2) pe_int (fun _ _ => rfl)) (pv 6) (fun _ _ => rfl)) pa_nil)))))
 (pss_one (ps_expr (pe_bm PySem.F.plainAttrs_list PySem.F.slot_list_append PySem.F.type_list_append mt_append (pv 3) (pa_cons (pe_callTy (r := rTupleOf K) cr_tupleOf (by rfl) T.m_tuple (by decide +kernel) (pa_cons (pe_callB (r := rSortedS K) cr_sortedS (by rfl) T.m_sorted (by decide +kernel) (pa_cons (pv 5) pa_nil)) pa_nil)) pa_nil)))))))
 (pss_one (ps_ret (pe_callB (r := rSortR K) (cr_sortR (units65 hr)) (by rfl) T.m_sorted (by decide +kernel) (pa_cons (pv 3) pa_nil))))))), ?_⟩
  walk_at "nk"
  obtain ⟨v1, v2, rfl, h1, h2⟩ := oall2 ha
  obtain ⟨W, L⟩ := a
  have hw : WebOk W := hp.1
  have hl : PrOk W L := hp.2
  let fm := fam W L.1 L.2
  let sh := shapeOf W.names fm
  have sok : ShOk sh := sh_ok hw fm
  refine q_set (ev_shape_at (ev_varI (i := 0) rfl h1) (ev_varI (i := 1) rfl h2) hw hl) fun u2 H1 s1 p1 => ?_
  have p1 : Im K H1 u2 (.tuple [strsD sh.low, .tuple (sh.blocks.map strsD), .tuple (sh.arrows.map pairND)]) := p1
  refine q_set (ev_nil (K := K)) fun u3 H2 s2 p2 => ?_
  obtain ⟨lf, xf, rfl, nf, ef, if_⟩ := p2
  cases if_
  have nf0 : H lf = none := s1.free nf
  have lcs : (closedSets sh).length ≤ 256 := by
    refine Nat.le_trans (List.length_filter_le _ _) ?_
    rw [subsN_len]
    exact Nat.le_trans (Nat.pow_le_pow_right (by decide) sok.lb) (by decide)
  -- the list of the sets is not lf
  refine q_forP (ds := (closedSets sh).map natsD) (p := fun b => b ≠ lf) (evi_listP ((ev_closed_sets sh (ev_varI (i := 2) rfl (Im.same s2 p1)) sok).imp fun v H3 s3 p3 => ?_)) fun H3 b ys s3 nb e3 => ?_
  · obtain ⟨b, ys, rfl, eb, ib⟩ := p3
    refine ⟨b, ys, rfl, fun z => ?_, eb, ib⟩
    subst z
    rw [s3 _ _ ef] at eb
    cases eb
    have := ib.length
    rw [List.length_map] at this
    have c0 : [] ∈ closedSets sh := by
      refine List.mem_filter.mpr ⟨subsN_mem.mpr ⟨fun _ => false, by simp⟩, closed_iff.mpr fun p _ h => absurd h (by simp)⟩
    have pos := List.length_pos_of_mem c0
    rw [← this] at pos
    exact absurd pos (by simp)
  let cs := closedSets sh
  refine ⟨fun i σ' H' => ∃ x4 x5 x6 zs, σ' = [some v1, some v2, some u2, some (.ref lf), x4, x5, x6] ∧ Same H H' ∧ TupKeep H3 H' ∧ H' b = some (.lst ys) ∧ H' lf = some (.lst zs) ∧ ImAll K H' zs (((cs.take i).map (cutOf W.names fm)).map strsD),
    ⟨_, _, _, [], rfl, (s1.trans s2).trans s3, TupKeep.refl _, e3, s3 _ _ ef, .nil⟩, fun i σ' H' ⟨_, _, _, _, _, _, k1, k2, _⟩ => ⟨k1, k2⟩, ?_, ?_⟩
  · rintro i dd y σ' H' H'' hd ⟨x4, x5, x6, zs, rfl, sH, tk, eb, ef', iz⟩ smm hy
    obtain ⟨som, hs, rfl, hsm⟩ := get_map hd
    have hsub : som ∈ subsN (blocksOf W.names fm).length := (List.mem_filter.mp hsm).1
    have p1' : Im K H'' u2 (.tuple [strsD sh.low, .tuple (sh.blocks.map strsD), .tuple (sh.arrows.map pairND)]) := (p1.same (s2.trans s3)).keep (tk.trans (tk_same smm))
    show tSeq _ _ _ _ _
    refine q_set (ev_listQ (K := K) (ds := sh.low.map .str) (ev_ixT (i := 0) (d := strsD sh.low) (ev_varI (i := 2) rfl p1') ev_int rfl).qT) fun u5 H4 s4 p4 => ?_
    obtain ⟨ln, xn, rfl, nn, en, in_⟩ := p4
    obtain rfl := in_.strs
    have ef4 := s4 _ _ (smm _ _ ef')
    have nfn : lf ≠ ln := ne_of_none (smm _ _ ef') nn
    have nbn : b ≠ ln := ne_of_none (smm _ _ eb) nn
    have nn0 : H ln = none := (sH.trans smm).free nn
    refine q_for (evi_tup (ev_varI (i := 4) rfl (Im.same s4 hy))) fun H5 s5 => ?_
    refine ⟨fun j σ' H' => ∃ x6, σ' = [some v1, some v2, some u2, some (.ref lf), some y, some (.ref ln), x6] ∧ Same H H' ∧ TupKeep H5 H' ∧ H' b = some (.lst ys) ∧ H' lf = some (.lst zs) ∧ H' ln = some (.lst ((rawCut sh (som.take j)).map V.str)),
      ⟨_, rfl, ((sH.trans smm).trans s4).trans s5, TupKeep.refl _, s5 _ _ (s4 _ _ (smm _ _ eb)), s5 _ _ ef4, ?_⟩, fun j σ' H' ⟨_, _, _, k, _⟩ => k, ?_, ?_⟩
    · have e : rawCut sh (som.take 0) = sh.low := by
        unfold rawCut
        simp
      rw [e]
      exact s5 _ _ en
    · rintro j dd z σ' H' H'' hd ⟨x6, rfl, sH5, tk5, eb5, ef5, en5⟩ sm5 hz
      obtain ⟨k, hk, rfl, hkm⟩ := get_map hd
      obtain rfl := Im.int_inv hz
      have kb : k < sh.blocks.length := subsN_lt hsub k hkm
      have eb' : sh.blocks[k]? = some sh.blocks[k] := List.getElem?_eq_getElem kb
      generalize sh.blocks[k] = blk at eb'
      have tk6 : TupKeep H4 H'' := ((tk_same s5).trans tk5).trans (tk_same sm5)
      have en6 := sm5 _ _ en5
      have lraw : (rawCut sh (som.take (j + 1))).length ≤ 8 := by
        have h1 := raw_len hw hsub
        have h2 : rawCut sh som = rawCut sh (som.take (j + 1)) ++ (som.drop (j + 1)).flatMap fun i => (sh.blocks[i]?).getD [] := by
          unfold rawCut
          rw [List.append_assoc, ← List.flatMap_append, List.take_append_drop]
        rw [h2, List.length_append] at h1
        omega
      rw [raw_take hk eb', List.length_append] at lraw
      refine s_extT en6 (ev_varV (i := 5) rfl) (ds := blk.map .str) (ev_ixT (d := strsD blk) (ev_ixT (i := 1) (d := .tuple (sh.blocks.map strsD)) (ev_varI (i := 2) rfl ((p1'.same s4).keep tk6)) ev_int rfl) (ev_varI (i := 6) rfl (Im.int _)) (atI_nat (by rw [List.getElem?_map, eb']; rfl))) (by rw [List.length_map, List.length_map]; omega) fun zs' H7 s7 i7 => ?_
      obtain rfl := i7.strs
      refine ⟨_, rfl, same_mut ((sH5.trans sm5).trans s7) nn0, (tk5.trans (tk_same (sm5.trans s7))).trans (tk_upd (s7 _ _ en6) trivial), ?_, ?_, ?_⟩
      · rw [upd_ne nbn]
        exact s7 _ _ (sm5 _ _ eb5)
      · rw [upd_ne nfn]
        exact s7 _ _ (sm5 _ _ ef5)
      · rw [upd_same, raw_take hk eb', List.map_append]
    · rintro σ' H' ⟨x6, rfl, sH5, tk5, eb5, ef5, en5⟩
      rw [List.length_map, List.take_length] at en5
      have lz : zs.length ≤ 256 := by
        rw [iz.length, List.length_map, List.length_map, List.length_take]
        have : cs.length ≤ 256 := lcs
        omega
      refine s_app ef5 (ev_varV (i := 3) rfl) (P := oI K (strsD (cutOf W.names fm som))) (ev_norm hw hsub (ev_varL (i := 5) rfl en5 (ImAll.of_strs _))) (by omega) fun u H8 s8 p8 => ?_
      have k9 : TupKeep H8 (upd H8 lf (.lst (zs ++ [u]))) := tk_upd (s8 _ _ ef5) trivial
      refine ⟨_, _, _, _, rfl, same_mut (sH5.trans s8) nf0, ((tk.trans (tk_same ((smm.trans s4).trans s5))).trans tk5).trans ((tk_same s8).trans k9), ?_, upd_same, ?_⟩
      · rw [upd_ne nb]
        exact s8 _ _ eb5
      · have et : (cs.take (i + 1)).map (cutOf W.names fm) = (cs.take i).map (cutOf W.names fm) ++ [cutOf W.names fm som] := by
          rw [List.take_add_one, hs, List.map_append]
          rfl
        rw [et, List.map_append]
        exact (((iz.same (smm.trans (s4.trans s5))).keep tk5).same s8 |>.keep k9).snoc (Im.keep k9 p8)
  · rintro σ' H' ⟨x4, x5, x6, zs, rfl, sH, tk, eb, ef', iz⟩
    rw [List.length_map, List.take_length] at iz
    refine s_ret (ev_sortR (K := K) (cs := cutsList W.names fm) (ev_varL (i := 3) rfl ef' iz).qL (cuts_first fm)) fun v H9 s9 ⟨ls, ⟨pm, srt⟩, p9⟩ => q v H9 (sH.trans s9) ⟨ls, ⟨pm, ris_of sto_tup srt (pm.nodup_iff.mpr cutsList_nodup)⟩, LsNew.ls p9⟩
theorem ev_cuts_at {σ : L2.St} {H : Hp} {ta tb : TE} {W : Web} {L : Fr} (h : Ev ta σ H (oI K (webD W))) (k : Ev tb σ H (oI K (frD L))) (hw : WebOk W) (hl : PrOk W L) : Ev (tCall (sp_cuts_at K) [] E0 (tCons ta (tCons tb tNil))) σ H (oE (CutsAt W L.1 L.2) fun ls => oL K (ls.map strsD)) := ev_call (W, L) (eva_cons h (eva_cons k eva_nil)) ⟨hw, hl⟩
end
end Cut
end
section
namespace Cut
open PySem PySem.Spec PyProof.Rows L2
local macro_rules | `(tactic| walk_at "nk") => `(tactic| first | dsimp only [cxOf, Cx.nox, Cx.wish, Cx.blk] | skip)
local macro_rules | `(tactic| walk_at "im") => `(tactic| first
  | assumption
  | exact Im.int _ | exact Im.str _ | exact Im.bl _ | exact Im.non
  | (refine Im.same (by assumption) ?_; walk_at "im"))
local macro_rules | `(tactic| walk_at "side") => `(tactic| first | assumption | rfl | omega)
local macro_rules | `(tactic| walk_at "ev") => `(tactic| first
  | (with_reducible exact ev_int) | (with_reducible exact ev_str) | (with_reducible exact ev_bl) | (with_reducible exact ev_non)
  | ((with_reducible apply ev_varI); rfl; walk_at "im")
  | ((with_reducible apply ev_ixT); walk_at "ev"; walk_at "ev"; walk_at "side")
  | ((with_reducible apply ev_add); walk_at "ev"; walk_at "ev")
  | ((with_reducible apply ev_sub); walk_at "ev"; walk_at "ev")
  | ((with_reducible apply ev_mul); walk_at "ev"; walk_at "ev"; walk_at "side")
  | ((with_reducible apply ev_div); walk_at "ev"; walk_at "ev"; walk_at "side")
  | ((with_reducible apply ev_mod); walk_at "ev"; walk_at "ev"; walk_at "side")
  | ((with_reducible apply ev_eqI); walk_at "ev"; walk_at "ev")
  | ((with_reducible apply ev_neI); walk_at "ev"; walk_at "ev")
  | ((with_reducible apply ev_eqS); walk_at "ev"; walk_at "ev")
  | ((with_reducible apply ev_neS); walk_at "ev"; walk_at "ev")
  | ((with_reducible apply ev_cmp); walk_at "ev"; walk_at "ev")
  | ((with_reducible apply ev_tup1); walk_at "ev")
  | ((with_reducible apply ev_tup2); walk_at "ev"; walk_at "ev")
  | ((with_reducible apply ev_tup3); walk_at "ev"; walk_at "ev"; walk_at "ev")
  | ((with_reducible apply ev_tup4); walk_at "ev"; walk_at "ev"; walk_at "ev"; walk_at "ev")
  | ((with_reducible apply ev_tup5); walk_at "ev"; walk_at "ev"; walk_at "ev"; walk_at "ev"; walk_at "ev")
  | ((with_reducible apply ev_lenT); walk_at "ev")
  | ((with_reducible apply ev_abs); walk_at "ev")
  | ((with_reducible apply ev_tupleL); walk_at "ev")
  | ((with_reducible apply ev_notV); walk_at "ev")
  | assumption)

/-! the law's helpers: numbers -/
theorem cm_of {i j : Int} (hi : -1000000000000000000 ≤ i ∧ i ≤ 1000000000000000000) (hj : -1000000000000000000 ≤ j ∧ j ≤ 1000000000000000000) : CMulW i j :=
  (bt_small (n := 100) hi.1 hi.2 (by decide)).cm (bt_small (n := 100) hj.1 hj.2 (by decide)) (by decide) (by decide) (by decide)
theorem cd_of {i j : Int} (h0 : 0 < j) (hj : j ≤ 1000000000000000000) : CDivW i j := (bt_small (n := 100) (by omega) hj (by decide)).cd h0 (by decide) (by decide)
theorem mod_bd (i : Int) {j : Int} (h : 0 < j) : 0 ≤ i % j ∧ i % j < j := ⟨Int.emod_nonneg i (by omega), Int.emod_lt_of_pos i h⟩
structure NumsR (m : Nat) (ns : List Int) : Prop where
  len : ns.length = m
  bd : ∀ x ∈ ns, 0 ≤ x ∧ x < 2000000000
theorem NumsR.get {m : Nat} {ns : List Int} (h : NumsR m ns) (k : Nat) (hk : k < m) : ∃ n, ns[k]? = some n ∧ 0 ≤ n ∧ n < 2000000000 :=
  ⟨ns[k]'(by rw [h.len]; exact hk), List.getElem?_eq_getElem _, h.bd _ (List.getElem_mem _)⟩
def litA : List Int → TA
  | [] => tNil
  | i :: r => tCons (tC (.int i)) (litA r)
section
variable {K : PySem.W.Frag} {σ : L2.St} {H : Hp} {te ta tb : TE}
theorem ev_num {ns : List Int} {n : Int} (k : Nat) {kk : Int} (hk : kk = (k : Int)) (h : Ev te σ H (oL K (intsD ns))) (g : ns[k]? = some n) : Ev (tOp (rIxL K) te (tC (.int kk))) σ H (oI K (.int n)) := by
  subst hk
  exact ev_ixL h ev_int (atI_nat (by rw [List.getElem?_map, g]; rfl))
theorem ev_lits : ∀ l : List Int, EvA (litA l) σ H ((l.map PyData.int).map (oI K))
  | [] => eva_nil
  | i :: r => eva_cons ev_int (ev_lits r)
theorem ev_pick (l : List Int) {i : Int} {n : Int} (w : Nat) (hw : i = (w : Int)) (h : Ev ta σ H (oI K (.int i))) (g : l[w]? = some n) (hl : l.length ≤ 1000) : Ev (tOp (rIxL K) (tLst (litA l)) ta) σ H (oI K (.int n)) := by
  subst hw
  exact ev_ixL (ds := l.map .int) (Ev.ls (ev_lstN (ev_lits l) (by rw [List.length_map]; omega))) h (atI_nat (by rw [List.getElem?_map, g]; rfl))
theorem pick_get {l : List Int} {w : Nat} {a b : Int} (h : w < l.length) (hb : ∀ x ∈ l, a ≤ x ∧ x ≤ b) : ∃ n, l[w]? = some n ∧ a ≤ n ∧ n ≤ b := ⟨l[w], List.getElem?_eq_getElem h, hb _ (List.getElem_mem h)⟩
end
section
variable {P : Program} {w : World} {K : PySem.W.Frag} {mg : Str → Option Value} {base : Heap}
/-- the script: a list of numbers that is only read -/
def oS (K : PySem.W.Frag) (ns : List Int) : Ob := ⟨fun v H => ∃ a, v = .ref a ∧ SqL K H a (ns.map V.int), fun _ _ _ s ⟨a, e, h⟩ => ⟨a, e, s.seq h⟩⟩
section
variable {σ : L2.St} {H : Hp} {te ta tb : TE} {ns : List Int}
theorem ev_varSc {i : Nat} {v : V} {H0 : Hp} (h : σ[i]? = some (some v)) (p : (oS K ns).p v H0) (s : Same H0 H) : Ev (tVar i) σ H (oS K ns) := ev_var h ((oS K ns).mono _ _ _ s p)
theorem ev_lenSc (h : Ev te σ H (oS K ns)) : Ev (tCB (rLenS K) (tCons te tNil)) σ H (oI K (.int (ns.length : Nat))) := ev_cb (eva_cons h eva_nil) fun vs H1 s p Q q => by
  obtain ⟨v, rfl, a, rfl, h1⟩ := oall1 p
  exact ⟨a, _, rfl, .inl h1, q _ H1 (Same.refl H1) (by rw [List.length_map]; exact Im.int _)⟩
theorem ev_ixSc {n : Int} {k : Nat} (h : Ev ta σ H (oS K ns)) (hk : Ev tb σ H (oI K (.int (k : Nat)))) (g : ns[k]? = some n) : Ev (tOp (rIxL K) ta tb) σ H (oI K (.int n)) := ev_op h hk fun x y H1 s px py Q q => by
  obtain ⟨a, rfl, h1⟩ := px
  exact ⟨a, _, k, .int n, rfl, Im.int_inv py, h1, atI_nat (by rw [List.getElem?_map, g]; rfl), q _ H1 (Same.refl H1) (Im.int n)⟩
theorem ev_sliceSc {tl th : TO} {lo hi : Option Int} (h : Ev te σ H (oS K ns)) (hl : EvO tl σ H lo) (hh : EvO th σ H hi) : Ev (tSl (rSlL K) te tl th) σ H (oN K H (cutD (intsD ns) lo hi)) := fun H1 s Q q =>
  h H1 s _ fun v H2 s2 p2 => hl H2 (s.trans s2) _ fun H3 s3 => hh H3 ((s.trans s2).trans s3) _ fun H4 s4 => by
    obtain ⟨a, rfl, h1⟩ := p2
    refine ⟨a, _, rfl, (s3.trans s4).seq h1, fun p hp => q _ _ (((s2.trans s3).trans s4).trans (same_new hp)) ?_⟩
    exact ⟨p, _, rfl, (((s.trans s2).trans s3).trans s4).free hp, upd_same, im_cut (ImAll.of_ints ns) lo hi⟩
end
def sp__law_cell (K : PySem.W.Frag) : Sp := spD (α := List Int × Nat) (fun a => [oS K a.1, oI K (.int (a.2 : Nat))]) (fun a => a.2 ≤ 1000) fun _ => oE (fun _ : Int => True) fun i => oI K (.int i)
theorem at__law_cell (T : Tx K mg) : At P w K mg base 1 "_law_cell" ["_law_script", "_law_k"] (sp__law_cell K) := by
  refine at_of T.d__law_cell sc__law_cell (fun _ => rfl) fun f cdv A outer s H vs Q E a hr hp ha q => ?_
  refine ⟨_, (pss_cons (ps_if (pt_cmpR op_lt (pv 1) (pe_callB (r := rLenS K) cr_lenS (by rfl) T.m_len (by decide +kernel) (pa_cons (pv 0) pa_nil)) (nomark _)) (pss_one (ps_ret (pe_ix (r := rIxL K) ix_list (pv 0) (pv 1) (fun _ _ => rfl)))) pss_nil)
 (pss_cons (ps_set (i := 2) sc__law_cell.nd rfl (Or.inl rfl) (pe_op op_mod (pe_op op_mulW pe_int (pe_op op_add (pe_op op_add (pe_op op_mulW (pv 1) (pv 1)) (pe_op op_mulW pe_int (pv 1))) pe_int)) pe_int))
 (pss_cons (ps_for PassesOwn.never rfl (show PI _ _ _ (iList K _) from pi_list (pe_slice (r := rSlL K) sl_list (pv 0) po_none (po_some pe_int))) (pg_name (i := 3) sc__law_cell.nd rfl (Or.inl rfl)) (pss_one (ps_set (i := 2) sc__law_cell.nd rfl (Or.inl rfl) (pe_op op_mod (pe_op op_add (pe_op op_mulW (pv 2) pe_int) (pv 3)) pe_int))))
 (pss_one (ps_ret (pv 2)))))), ?_⟩
  walk_at "nk"
  obtain ⟨v1, v2, rfl, h1, h2⟩ := oall2 ha
  obtain ⟨ns, k⟩ := a
  have hk : k ≤ 1000 := hp
  have h1 : (oS K ns).p v1 H := h1
  obtain rfl : v2 = .int (k : Nat) := Im.int_inv h2
  have k2 : ∀ {σ : L2.St} {H9 : Hp}, σ[1]? = some (some (.int (k : Nat))) → Ev (tVar 1) σ H9 (oI K (.int (k : Nat))) := fun e => ev_varI e (Im.int _)
  refine q_when (evb_test (ev_cmp (k2 rfl) (ev_lenSc (ev_varSc (i := 0) rfl h1 (Same.refl _))))) (fun hb H1 s1 => ?_) fun hb H1 s1 => ?_
  · have hb : k < ns.length := by
      have := of_decide_eq_true hb
      omega
    exact s_ret (ev_ixSc (K := K) (n := ns[k]) (ev_varSc (i := 0) rfl h1 s1) (k2 rfl) (List.getElem?_eq_getElem hb)) fun v H2 s2 p2 => q v H2 (s1.trans s2) ⟨_, trivial, p2⟩
  · have kk : (k : Int) * k ≤ 1000 * 1000 := Int.mul_le_mul (by omega) (by omega) (by omega) (by omega)
    have k0 : 0 ≤ (k : Int) * k := Int.mul_nonneg (by omega) (by omega)
    refine q_set (ev_mod (K := K) (ev_mul ev_int (ev_add (ev_add (ev_mul (k2 rfl) (k2 rfl) (cm_of (by omega) (by omega))) (ev_mul ev_int (k2 rfl) (cm_of (by omega) (by omega)))) ev_int) (cm_of (by omega) (by omega))) ev_int (by decide)) fun u H2 s2 p2 => ?_
    obtain rfl := Im.int_inv p2
    have b0 := mod_bd (48271 * ((k : Int) * k + 7 * k + 11)) (j := 2147483647) (by decide)
    generalize 48271 * ((k : Int) * k + 7 * k + 11) % 2147483647 = s0 at b0
    have s02 := s1.trans s2
    refine q_forL (evi_list (Ev.ls (ev_sliceSc (K := K) (ev_varSc (i := 0) rfl h1 s02) evo_none (evo_some (K := K) (ev_int (K := K)))))) fun H3 b ys s3 e3 => ?_
    refine ⟨fun i σ' H' => ∃ st x3, σ' = [some v1, some (.int (k : Nat)), some (.int st), x3] ∧ Same H3 H' ∧ 0 ≤ st ∧ st < 2147483647, ⟨s0, none, rfl, Same.refl _, b0⟩, fun i σ' H' ⟨_, _, _, s, _⟩ => ⟨tk_same s, s _ _ e3⟩, ?_, ?_⟩
    · rintro i d y σ' H' H'' hd ⟨st, x3, rfl, sH, b1, b2⟩ smm hy
      have hm := List.mem_of_getElem? hd
      obtain ⟨c, _, rfl⟩ := List.mem_map.mp (List.mem_of_mem_drop (List.mem_of_mem_take hm))
      obtain rfl := Im.int_inv hy
      refine s_set (ev_mod (K := K) (ev_add (ev_mul (ev_varI (i := 2) rfl (Im.int _)) ev_int (cm_of (by omega) (by omega))) (ev_varI (i := 3) rfl (Im.int _))) ev_int (by decide)) fun u H4 s4 p4 => ?_
      obtain rfl := Im.int_inv p4
      exact ⟨_, _, rfl, (sH.trans smm).trans s4, mod_bd _ (by decide)⟩
    · rintro σ' H' ⟨st, x3, rfl, sH, b1, b2⟩
      exact s_ret (ev_varI (K := K) (i := 2) rfl (Im.int _)) fun v H4 s4 p4 => q v H4 ((s02.trans s3).trans (sH.trans s4)) ⟨_, trivial, p4⟩
theorem ev__law_cell {σ : L2.St} {H : Hp} {ta tb : TE} {ns : List Int} {k : Nat} (h : Ev ta σ H (oS K ns)) (l : Ev tb σ H (oI K (.int (k : Nat)))) (hk : k ≤ 1000) : Ev (tCall (sp__law_cell K) [] E0 (tCons ta (tCons tb tNil))) σ H (oE (fun _ : Int => True) fun i => oI K (.int i)) := ev_call (ns, k) (eva_cons h (eva_cons l eva_nil)) hk
/-- of any number -/
def sp__law_numbers (K : PySem.W.Frag) : Sp := spD (α := Nat) (fun m => [oE (fun _ : Int => True) (fun i => oI K (.int i)), oI K (.int (m : Nat))]) (fun m => m ≤ 100) fun m => oE (NumsR m) fun ns => oL K (intsD ns)
theorem at__law_numbers (T : Tx K mg) : At P w K mg base 1 "_law_numbers" ["_law_cell_here", "_law_many"] (sp__law_numbers K) := by
  refine at_of T.d__law_numbers sc__law_numbers (fun _ => rfl) fun f cdv A outer s H vs Q E a hr hp ha q => ?_
  refine ⟨_, (pss_cons (ps_set (i := 2) sc__law_numbers.nd rfl (Or.inl rfl) (pe_lst pa_nil))
 (pss_cons (ps_set (i := 3) sc__law_numbers.nd rfl (Or.inl rfl) (pe_op op_mod (pe_op op_mulW (pe_op op_add (pe_op op_mod (pv 0) pe_int) pe_int) pe_int) pe_int))
 (pss_cons (ps_set (i := 4) sc__law_numbers.nd rfl (Or.inl rfl) pe_int)
 (pss_cons (ps_if (PW.pt (pw_or (pt_cmpR op_lt (pv 0) pe_int (nomark _)) (pw_or1 (pt_cmpR op_ge (pv 0) (pe_op op_pow pe_int pe_int) (nomark _))))) (pss_one (ps_set (i := 4) sc__law_numbers.nd rfl (Or.inl rfl) (pe_callB cr_abs (by rfl) T.m_abs (by decide +kernel) (pa_cons (pv 0) pa_nil)))) pss_nil)
 (pss_cons (ps_for PassesOwn.never rfl (pi_range1 (by rfl) T.m_range (pa_cons (pv 1) pa_nil)) (pg_name (i := 5) sc__law_numbers.nd rfl (Or.inl rfl)) (pss_cons (ps_set (i := 3) sc__law_numbers.nd rfl (Or.inl rfl) (pe_op op_mod (pe_op op_add (pe_op op_add (pe_op op_mulW (pv 3) (pe_op op_add (pe_op op_mod (pv 3) pe_int) pe_int)) (pe_op op_mulW pe_int (pv 5))) pe_int) pe_int))
 (pss_cons (ps_expr (pe_bm PySem.F.plainAttrs_list PySem.F.slot_list_append PySem.F.type_list_append mt_append (pv 2) (pa_cons (pe_ix (r := rIxL K) ix_list (pe_lst (pa_cons (pv 3) (pa_cons (pe_op op_mod (pv 4) pe_int) pa_nil))) (pe_callTy cr_int1 (by rfl) T.m_int (by decide +kernel) (pa_cons (pe_cmpR op_gt (pv 4) pe_int (nomark _)) pa_nil)) (fun _ _ => rfl)) pa_nil)))
 (pss_one (ps_set (i := 4) sc__law_numbers.nd rfl (Or.inl rfl) (pe_op op_fdivW (pv 4) pe_int))))))
 (pss_one (ps_ret (pv 2)))))))), ?_⟩
  walk_at "nk"
  obtain ⟨v1, v2, rfl, ⟨c, _, h1⟩, h2⟩ := oall2 ha
  have hm : a ≤ 100 := hp
  obtain rfl : v1 = .int c := Im.int_inv h1
  obtain rfl : v2 = .int (a : Nat) := Im.int_inv h2
  refine q_set (ev_nil (K := K)) fun vf H1 s1 p1 => ?_
  obtain ⟨lf, xf, rfl, nf, ef, if_⟩ := p1
  cases if_
  have c0 : ∀ {σ : L2.St} {H9 : Hp}, σ[0]? = some (some (.int c)) → Ev (tVar 0) σ H9 (oI K (.int c)) := fun e => ev_varI e (Im.int _)
  have b0 := mod_bd c (j := 1999999973) (by decide)
  refine q_set (ev_mod (K := K) (ev_mul (ev_add (ev_mod (c0 rfl) ev_int (by decide)) ev_int) ev_int (cm_of (by omega) (by omega))) ev_int (by decide)) fun u H2 s2 p2 => ?_
  obtain rfl := Im.int_inv p2
  have b1 := mod_bd ((c % 1999999973 + 31) * 765432101) (j := 1999999973) (by decide)
  generalize (c % 1999999973 + 31) * 765432101 % 1999999973 = st0 at b1
  refine q_set (ev_int (K := K)) fun u H3 s3 p3 => ?_
  obtain rfl := Im.int_inv p3
  have s03 := (s1.trans s2).trans s3
  -- the digits, whatever they are
  have rest : ∀ (D : Int) (H5 : Hp), Same H3 H5 → ∀ DD : Ends, DD.rt = Q →
      tSeq (tFor (iRng1 (tCons (tVar 1) tNil)) (gName 5) (tSeq (tAsg (tOp (rI (fun _ j => 0 < j) fun i j => .int (i % j)) (tOp (rI0 fun i j => .int (i + j)) (tOp (rI0 fun i j => .int (i + j)) (tOp (rI CMulW fun i j => .int (i * j)) (tVar 3) (tOp (rI0 fun i j => .int (i + j)) (tOp (rI (fun _ j => 0 < j) fun i j => .int (i % j)) (tVar 3) (tC (.int 65521))) (tC (.int 40487)))) (tOp (rI CMulW fun i j => .int (i * j)) (tC (.int 7)) (tVar 5))) (tC (.int 5))) (tC (.int 1999999973))) (gName 3))
        (tSeq (tDrop (tBM K "list" rAppend (tVar 2) (tCons (tOp (rIxL K) (tLst (tCons (tVar 3) (tCons (tOp (rI (fun _ j => 0 < j) fun i j => .int (i % j)) (tVar 4) (tC (.int 1000000))) tNil))) (tCB rInt1 (tCons (tOp (rI0 fun i j => .bl (decide (j < i))) (tVar 4) (tC (.int 0))) tNil))) tNil)))
          (tAsg (tOp (rI CDivW fun i j => .int (i / j)) (tVar 4) (tC (.int 1000000))) (gName 4))))) (tRet (tVar 2)) DD [some (.int c), some (.int (a : Nat)), some (.ref lf), some (.int st0), some (.int D), none] H5 := fun D H5 s5 DD hDD => by
    refine q_for (evi_rng1 (K := K) (n := (a : Nat)) (ev_varI (i := 1) rfl (Im.int _)) ⟨by omega, by omega⟩) fun H6 s6 => ?_
    have s06 := (s03.trans s5).trans s6
    refine ⟨fun i σ' H' => ∃ st D x5 ns, σ' = [some (.int c), some (.int (a : Nat)), some (.ref lf), some (.int st), some (.int D), x5] ∧ Same H H' ∧ TupKeep H6 H' ∧ H' lf = some (.lst (ns.map V.int)) ∧ NumsR i ns ∧ 0 ≤ st ∧ st < 1999999973,
      ⟨st0, D, none, [], rfl, s06, TupKeep.refl _, s6 _ _ (s5 _ _ (s3 _ _ (s2 _ _ ef))), ⟨rfl, fun x h => absurd h (by simp)⟩, b1⟩, fun i σ' H' ⟨_, _, _, _, _, _, k, _⟩ => k, ?_, ?_⟩
    · rintro i d y σ' H' H'' hd ⟨st, D, x5, ns, rfl, sH, tk, el, nr, st1, st2⟩ smm hy
      obtain ⟨i', hi', rfl, him⟩ := get_map hd
      have hib := List.mem_range.mp him
      obtain rfl := Im.int_inv hy
      have ib : i' < 100 := by omega
      have m1 := mod_bd st (j := 65521) (by decide)
      refine q_set (ev_mod (K := K) (ev_add (ev_add (ev_mul (ev_varI (i := 3) rfl (Im.int _)) (ev_add (ev_mod (ev_varI (i := 3) rfl (Im.int _)) ev_int (by decide)) ev_int) (cm_of (by omega) (by omega))) (ev_mul ev_int (ev_varI (i := 5) rfl (Im.int _)) (cm_of (by omega) (by omega)))) ev_int) ev_int (by decide)) fun u H7 s7 p7 => ?_
      obtain rfl := Im.int_inv p7
      have b7 := mod_bd (st * (st % 65521 + 40487) + 7 * (i' : Int) + 5) (j := 1999999973) (by decide)
      generalize (st * (st % 65521 + 40487) + 7 * (i' : Int) + 5) % 1999999973 = st' at b7
      have el7 := s7 _ _ (smm _ _ el)
      have m2 := mod_bd D (j := 1000000) (by decide)
      have pick : ∃ n : Int, 0 ≤ n ∧ n < 2000000000 ∧ atI [PyData.int st', PyData.int (D % 1000000)] (if decide ((0 : Int) < D) = true then 1 else 0) = some (.int n) := by
        by_cases hD : (0 : Int) < D
        · rw [if_pos (decide_eq_true hD)]
          exact ⟨D % 1000000, by omega, by omega, atI_nat (j := 1) rfl⟩
        · rw [if_neg (by rw [decide_eq_false hD]; decide)]
          exact ⟨st', by omega, by omega, atI_nat (j := 0) rfl⟩
      obtain ⟨n, n0, n1, hn⟩ := pick
      refine q_app el7 (ev_varV (i := 2) rfl) (P := oI K (.int n)) (ev_ixL (ds := [.int st', .int (D % 1000000)]) (Ev.ls (ev_lstN (K := K) (ds := [.int st', .int (D % 1000000)]) (eva_cons (ev_varI (i := 3) rfl (Im.int _)) (eva_cons (ev_mod (ev_varI (i := 4) rfl (Im.int _)) ev_int (by decide)) eva_nil)) (by simp))) (ev_int1 (K := K) (ev_cmp (ev_varI (i := 4) rfl (Im.int _)) ev_int)) hn)
        (by rw [List.length_map, nr.len]; have := nr.len; have := (List.getElem?_eq_some_iff.mp hi').1; rw [List.length_range] at this; omega) fun u H8 s8 p8 => ?_
      obtain rfl := Im.int_inv p8
      refine s_set (ev_div (K := K) (ev_varI (i := 4) rfl (Im.int _)) ev_int (cd_of (by decide) (by decide))) fun u H9 s9 p9 => ?_
      obtain rfl := Im.int_inv p9
      have k9 : TupKeep H8 (upd H8 lf (.lst (ns.map V.int ++ [.int n]))) := tk_upd (s8 _ _ el7) trivial
      refine ⟨st', _, _, ns ++ [n], rfl, (same_mut (((sH.trans smm).trans s7).trans s8) nf).trans s9, ((tk.trans (tk_same ((smm.trans s7).trans s8))).trans k9).trans (tk_same s9), ?_, ⟨by rw [List.length_append, nr.len]; rfl, fun x hx => ?_⟩, b7⟩
      · rw [s9 _ _ upd_same, List.map_append]
        rfl
      · rcases List.mem_append.mp hx with z | z
        · exact nr.bd x z
        · rw [List.mem_singleton.mp z]
          exact ⟨n0, n1⟩
    · rintro σ' H' ⟨st, D, x5, ns, rfl, sH, tk, el, nr, st1, st2⟩
      have e : ((List.range ((a : Nat) : Int).toNat).map fun (i : Nat) => PyData.int i).length = a := by rw [List.length_map, List.length_range]; omega
      rw [e] at nr
      refine s_ret (ev_varL (K := K) (i := 2) rfl el (ImAll.of_ints ns)) fun v H7 s7 p7 => ?_
      rw [hDD]
      exact q v H7 (sH.trans s7) ⟨ns, nr, p7⟩
  refine q_when (evb_or (evb_test (ev_cmp (K := K) (c0 rfl) ev_int)) fun _ => evb_test (ev_cmp (K := K) (c0 rfl) (ev_I (K := K) (P := oI K (.int ((10 : Int) ^ 18))) (i := 10) (j := 18) ev_int ev_int ⟨by decide, by decide, by decide⟩ (Im.int _)))) (fun hb H4 s4 => ?_) fun hb H4 s4 => ?_
  · refine s_set (ev_abs (K := K) (c0 rfl)) fun u H5 s5 p5 => ?_
    obtain rfl := Im.int_inv p5
    exact rest _ H5 (s4.trans s5) _ rfl
  · exact rest 0 H4 s4 _ rfl
theorem ev__law_numbers {σ : L2.St} {H : Hp} {ta tb : TE} {m : Nat} (h : Ev ta σ H (oE (fun _ : Int => True) fun i => oI K (.int i))) (l : Ev tb σ H (oI K (.int (m : Nat)))) (hm : m ≤ 100) : Ev (tCall (sp__law_numbers K) [] E0 (tCons ta (tCons tb tNil))) σ H (oE (NumsR m) fun ns => oL K (intsD ns)) := ev_call m (eva_cons h (eva_cons l eva_nil)) hm
end
end Cut
end
section
namespace Cut
open PySem PySem.Spec PyProof.Rows L2
local macro_rules | `(tactic| walk_at "nk") => `(tactic| first | dsimp only [cxOf, Cx.nox, Cx.wish, Cx.blk] | skip)
local macro_rules | `(tactic| walk_at "im") => `(tactic| first
  | assumption
  | exact Im.int _ | exact Im.str _ | exact Im.bl _ | exact Im.non
  | (refine Im.same (by assumption) ?_; walk_at "im"))
local macro_rules | `(tactic| walk_at "side") => `(tactic| first | assumption | rfl | omega)
local macro_rules | `(tactic| walk_at "ev") => `(tactic| first
  | (with_reducible exact ev_int) | (with_reducible exact ev_str) | (with_reducible exact ev_bl) | (with_reducible exact ev_non)
  | ((with_reducible apply ev_varI); rfl; walk_at "im")
  | ((with_reducible apply ev_ixT); walk_at "ev"; walk_at "ev"; walk_at "side")
  | ((with_reducible apply ev_add); walk_at "ev"; walk_at "ev")
  | ((with_reducible apply ev_sub); walk_at "ev"; walk_at "ev")
  | ((with_reducible apply ev_mul); walk_at "ev"; walk_at "ev"; walk_at "side")
  | ((with_reducible apply ev_div); walk_at "ev"; walk_at "ev"; walk_at "side")
  | ((with_reducible apply ev_mod); walk_at "ev"; walk_at "ev"; walk_at "side")
  | ((with_reducible apply ev_eqI); walk_at "ev"; walk_at "ev")
  | ((with_reducible apply ev_neI); walk_at "ev"; walk_at "ev")
  | ((with_reducible apply ev_eqS); walk_at "ev"; walk_at "ev")
  | ((with_reducible apply ev_neS); walk_at "ev"; walk_at "ev")
  | ((with_reducible apply ev_cmp); walk_at "ev"; walk_at "ev")
  | ((with_reducible apply ev_tup1); walk_at "ev")
  | ((with_reducible apply ev_tup2); walk_at "ev"; walk_at "ev")
  | ((with_reducible apply ev_tup3); walk_at "ev"; walk_at "ev"; walk_at "ev")
  | ((with_reducible apply ev_tup4); walk_at "ev"; walk_at "ev"; walk_at "ev"; walk_at "ev")
  | ((with_reducible apply ev_tup5); walk_at "ev"; walk_at "ev"; walk_at "ev"; walk_at "ev"; walk_at "ev")
  | ((with_reducible apply ev_lenT); walk_at "ev")
  | ((with_reducible apply ev_abs); walk_at "ev")
  | ((with_reducible apply ev_tupleL); walk_at "ev")
  | ((with_reducible apply ev_notV); walk_at "ev")
  | assumption)

/-! names drawn -/
def chr1 (i : Int) : Str := ⟨#[97 + i.toNat]⟩
def abc26 : Str := "abcdefghijklmnopqrstuvwxyz"
def abc8 : Str := "abcdefgh"
theorem abc26_at : ∀ n : Nat, n < 26 → abc26.cps.toList[n]? = some (97 + n) := by decide +kernel
theorem abc8_at : ∀ n : Nat, n < 8 → abc8.cps.toList[n]? = some (97 + n) := by decide +kernel
theorem abc26_i {i : Int} (h : 0 ≤ i ∧ i < 26) : atI abc26.cps.toList i = some (97 + i.toNat) := by
  obtain ⟨n, rfl⟩ := Int.eq_ofNat_of_zero_le h.1
  exact atI_nat (abc26_at n (by omega))
theorem abc8_i {i : Int} (h : 0 ≤ i ∧ i < 8) : atI abc8.cps.toList i = some (97 + i.toNat) := by
  obtain ⟨n, rfl⟩ := Int.eq_ofNat_of_zero_le h.1
  exact atI_nat (abc8_at n (by omega))
theorem rep_list (c : Nat) : ∀ (n : Nat) (a : Array Nat), ((List.replicate n #[c]).foldl (· ++ ·) a).toList = a.toList ++ List.replicate n c
  | 0, a => by simp
  | n + 1, a => by
    rw [List.replicate_succ, List.foldl_cons, rep_list c n, Array.toList_append, List.append_assoc]
    rfl
theorem rep_chr (i n : Int) : (repS (chr1 i) n).cps.toList = List.replicate n.toNat (97 + i.toNat) := by
  unfold repS chr1
  rw [rep_list]
  rfl
theorem app_list (a b : Str) : (a ++ b).cps.toList = a.cps.toList ++ b.cps.toList := by
  show (Str.append a b).cps.toList = _
  unfold Str.append
  exact Array.toList_append
theorem chr_list (i : Int) : (chr1 i).cps.toList = [97 + i.toNat] := rfl
section
variable {K : PySem.W.Frag} {σ : L2.St} {H : Hp} {te ta tb tt : TE} {t : TT} {D : Ends} {tz : TS}
theorem ev_ixS {z : Str} {i : Int} {c : Nat} (h : Ev ta σ H (oI K (.str z))) (k : Ev tb σ H (oI K (.int i))) (hl : z.length ≤ 1000) (e : atI z.cps.toList i = some c) : Ev (tOp rIxS ta tb) σ H (oI K (.str ⟨#[c]⟩)) :=
  ev_op h k fun x y H1 s p1 p2 Q q => by
    rw [Im.str_inv p1, Im.int_inv p2]
    exact ⟨z, i, c, rfl, rfl, sz_le (by omega), e, q _ H1 (Same.refl H1) (Im.str _)⟩
theorem ev_mulS {z : Str} {n : Int} (h : Ev ta σ H (oI K (.str z))) (k : Ev tb σ H (oI K (.int n))) (h0 : 0 ≤ n) (h1 : n ≤ 1000) (hl : z.length ≤ 1000) : Ev (tOp rMulS ta tb) σ H (oI K (.str (repS z n))) :=
  ev_op h k fun x y H1 s p1 p2 Q q => by
    rw [Im.str_inv p1, Im.int_inv p2]
    exact ⟨z, n, rfl, rfl, h0, h1, hl, q _ H1 (Same.refl H1) (Im.str _)⟩
theorem ev_addS {a b : Str} (h : Ev ta σ H (oI K (.str a))) (k : Ev tb σ H (oI K (.str b))) (hl : a.length + b.length ≤ 100000) : Ev (tOp (fun x y H Q => ∃ i j, x = .str i ∧ y = .str j ∧ i.length + j.length ≤ sizeLine ∧ Q (.str (i ++ j)) H) ta tb) σ H (oI K (.str (a ++ b))) :=
  ev_op h k fun x y H1 s p1 p2 Q q => by
    rw [Im.str_inv p1, Im.str_inv p2]
    exact ⟨a, b, rfl, rfl, sz_le hl, q _ H1 (Same.refl H1) (Im.str _)⟩
/-- a name set anew, if .. -/
theorem q_whenSet {i : Nat} {b : Bool} {P : Ob} {o : V} (h : EvB t σ H b) (e : σ.set i (some o) = σ) (h1 : b = true → Ev te σ H P) (h2 : b = false → P.p o H) (k : ∀ v H1, Same H H1 → P.p v H1 → tz D (σ.set i (some v)) H1) : tSeq (tIfS t (tAsg te (gName i)) tNext) tz D σ H := by
  refine q_when h (fun hb H1 s1 => s_set ((h1 hb).same s1) fun v H2 s2 p2 => k v H2 (s1.trans s2) p2) fun hb H1 s1 => ?_
  have := k o H1 s1 (P.mono _ _ _ s1 (h2 hb))
  rw [e] at this
  exact this
end
/-- the k-th name by the four drawn numbers -/
def nm0 (x0 x2 x3 : Int) (k : Nat) (m : Int) : Str := repS (chr1 ((x0 + 7 * (k : Int)) % 26)) (1 + (x2 + 3 * (k : Int)) % m)
def nm1 (x2 x3 : Int) (k : Nat) : Str := chr1 (k : Int) ++ repS (chr1 (x2 % 26)) (x3 % 8)
def nm2 (x2 : Int) (k : Nat) : Str := repS (chr1 (x2 % 26)) (1 + (k : Int))
def nm3 (x0 x2 x3 : Int) (k : Nat) : Str := (chr1 (x2 % 26) ++ chr1 ((x3 + 5 * (k : Int)) % 26)) ++ chr1 (x0 % 26)
def nmK (x0 x1 x2 x3 m : Int) (k : Nat) : Str :=
  if x1 % 4 = 3 then nm3 x0 x2 x3 k else if x1 % 4 = 2 then nm2 x2 k else if x1 % 4 = 1 then nm1 x2 x3 k else nm0 x0 x2 x3 k m
/-- small letters, some, not many -/
def Good (n : Str) : Prop := n.cps.toList ≠ [] ∧ n.cps.toList.length ≤ 10 ∧ ∀ c ∈ n.cps.toList, 97 ≤ c ∧ c ≤ 122
section
variable {x0 x1 x2 x3 m : Int} {k : Nat}
theorem chr_good {i : Int} (h : 0 ≤ i ∧ i < 26) : 97 ≤ 97 + i.toNat ∧ 97 + i.toNat ≤ 122 := by omega
theorem nm_good (hk : k < 8) (hm : 1 ≤ m ∧ m ≤ 5) : Good (nmK x0 x1 x2 x3 m k) := by
  have a26 := fun i : Int => chr_good (mod_bd i (j := 26) (by decide))
  have m5 := mod_bd (x2 + 3 * (k : Int)) (j := m) (by omega)
  have m8 := mod_bd x3 (j := 8) (by decide)
  unfold nmK
  split
  · unfold nm3 Good
    rw [app_list, app_list, chr_list, chr_list, chr_list]
    refine ⟨by simp, by simp, fun c hc => ?_⟩
    simp only [List.cons_append, List.nil_append, List.mem_cons, List.not_mem_nil, or_false] at hc
    rcases hc with rfl | rfl | rfl
    · exact a26 _
    · exact a26 _
    · exact a26 _
  split
  · unfold nm2 Good
    rw [rep_chr]
    refine ⟨fun z => ?_, by rw [List.length_replicate]; omega, fun c hc => ?_⟩
    · have := congrArg List.length z
      rw [List.length_replicate, List.length_nil] at this
      omega
    · rw [(List.mem_replicate.mp hc).2]
      exact a26 _
  split
  · unfold nm1 Good
    rw [app_list, chr_list, rep_chr]
    refine ⟨by simp, by rw [List.length_append, List.length_replicate]; show 1 + _ ≤ 10; omega, fun c hc => ?_⟩
    rcases List.mem_append.mp hc with z | z
    · rw [List.mem_singleton.mp z]
      omega
    · rw [(List.mem_replicate.mp z).2]
      exact a26 _
  · unfold nm0 Good
    rw [rep_chr]
    refine ⟨fun z => ?_, by rw [List.length_replicate]; omega, fun c hc => ?_⟩
    · have := congrArg List.length z
      rw [List.length_replicate, List.length_nil] at this
      omega
    · rw [(List.mem_replicate.mp hc).2]
      exact a26 _
theorem nm_inj {i j : Nat} (hi : i < 8) (hj : j < 8) (hm : 1 ≤ m ∧ m ≤ 5) (e : nmK x0 x1 x2 x3 m i = nmK x0 x1 x2 x3 m j) : i = j := by
  have ec : (nmK x0 x1 x2 x3 m i).cps.toList = (nmK x0 x1 x2 x3 m j).cps.toList := by rw [e]
  have b1 := mod_bd (x0 + 7 * (i : Int)) (j := 26) (by decide)
  have b2 := mod_bd (x0 + 7 * (j : Int)) (j := 26) (by decide)
  have c1 := mod_bd (x3 + 5 * (i : Int)) (j := 26) (by decide)
  have c2 := mod_bd (x3 + 5 * (j : Int)) (j := 26) (by decide)
  have d1 := mod_bd (x2 + 3 * (i : Int)) (j := m) (by omega)
  have d2 := mod_bd (x2 + 3 * (j : Int)) (j := m) (by omega)
  unfold nmK at ec
  split at ec
  · unfold nm3 at ec
    rw [app_list, app_list, app_list, app_list, chr_list, chr_list, chr_list, chr_list] at ec
    have h := (List.cons.inj (List.cons.inj ec).2).1
    omega
  split at ec
  · unfold nm2 at ec
    rw [rep_chr, rep_chr] at ec
    have := congrArg List.length ec
    rw [List.length_replicate, List.length_replicate] at this
    omega
  split at ec
  · unfold nm1 at ec
    rw [app_list, app_list, chr_list, chr_list] at ec
    have h := (List.cons.inj ec).1
    omega
  · unfold nm0 at ec
    rw [rep_chr, rep_chr] at ec
    have l1 : (1 + (x2 + 3 * (i : Int)) % m).toNat = ((x2 + 3 * (i : Int)) % m).toNat + 1 := by omega
    have l2 : (1 + (x2 + 3 * (j : Int)) % m).toNat = ((x2 + 3 * (j : Int)) % m).toNat + 1 := by omega
    rw [l1, l2, List.replicate_succ, List.replicate_succ] at ec
    have h := (List.cons.inj ec).1
    omega
end
structure NamesR (m : Nat) (ns : List Str) : Prop where
  len : ns.length = m
  ris : Ris ltS ns
  good : ∀ n ∈ ns, Good n
section
variable {P : Program} {w : World} {K : PySem.W.Frag} {mg : Str → Option Value} {base : Heap}
def sp__law_names (K : PySem.W.Frag) : Sp := spD (α := List Int × Nat) (fun a => [oL K (intsD a.1), oI K (.int (a.2 : Nat))]) (fun a => NumsR 12 a.1 ∧ a.2 ≤ 8) fun a => oE (NamesR a.2) fun ns => oL K (ns.map .str)
theorem at__law_names (T : Tx K mg) : At P w K mg base 1 "_law_names" ["_law_xs", "_law_many"] (sp__law_names K) := by
  refine at_of T.d__law_names sc__law_names (fun _ => rfl) fun f cdv A outer s H vs Q E a hr hp ha q => ?_
  refine ⟨_, (pss_cons (ps_set (i := 2) sc__law_names.nd rfl (Or.inl rfl) pe_str)
 (pss_cons (ps_set (i := 3) sc__law_names.nd rfl (Or.inl rfl) (pe_lst pa_nil))
 (pss_cons (ps_for PassesOwn.never rfl (pi_range1 (by rfl) T.m_range (pa_cons (pv 1) pa_nil)) (pg_name (i := 4) sc__law_names.nd rfl (Or.inl rfl)) (pss_cons (ps_set (i := 5) sc__law_names.nd rfl (Or.inl rfl) (pe_op op_mul_str (pe_ix ix_str (pv 2) (pe_op op_mod (pe_op op_add (pe_ix (r := rIxL K) ix_list (pv 0) pe_int (fun _ _ => rfl)) (pe_op op_mulW pe_int (pv 4))) pe_int) (fun _ _ => rfl)) (pe_op op_add pe_int (pe_op op_mod (pe_op op_add (pe_ix (r := rIxL K) ix_list (pv 0) pe_int (fun _ _ => rfl)) (pe_op op_mulW pe_int (pv 4))) (pe_ix (r := rIxL K) ix_list (pe_lst (pa_cons pe_int (pa_cons pe_int pa_nil))) (pe_op op_mod (pe_ix (r := rIxL K) ix_list (pv 0) pe_int (fun _ _ => rfl)) pe_int) (fun _ _ => rfl))))))
 (pss_cons (ps_if (pt_cmpR op_eq (pe_op op_mod (pe_ix (r := rIxL K) ix_list (pv 0) pe_int (fun _ _ => rfl)) pe_int) pe_int (nomark _)) (pss_one (ps_set (i := 5) sc__law_names.nd rfl (Or.inl rfl) (pe_op op_add_str (pe_ix ix_str pe_str (pv 4) (fun _ _ => rfl)) (pe_op op_mul_str (pe_ix ix_str (pv 2) (pe_op op_mod (pe_ix (r := rIxL K) ix_list (pv 0) pe_int (fun _ _ => rfl)) pe_int) (fun _ _ => rfl)) (pe_op op_mod (pe_ix (r := rIxL K) ix_list (pv 0) pe_int (fun _ _ => rfl)) pe_int))))) pss_nil)
 (pss_cons (ps_if (pt_cmpR op_eq (pe_op op_mod (pe_ix (r := rIxL K) ix_list (pv 0) pe_int (fun _ _ => rfl)) pe_int) pe_int (nomark _)) (pss_one (ps_set (i := 5) sc__law_names.nd rfl (Or.inl rfl) (pe_op op_mul_str (pe_ix ix_str (pv 2) (pe_op op_mod (pe_ix (r := rIxL K) ix_list (pv 0) pe_int (fun _ _ => rfl)) pe_int) (fun _ _ => rfl)) (pe_op op_add pe_int (pv 4))))) pss_nil)
 (pss_cons (ps_if (pt_cmpR op_eq (pe_op op_mod (pe_ix (r := rIxL K) ix_list (pv 0) pe_int (fun _ _ => rfl)) pe_int) pe_int (nomark _)) (pss_cons (ps_set (i := 6) sc__law_names.nd rfl (Or.inl rfl) (pe_ix ix_str (pv 2) (pe_op op_mod (pe_op op_add (pe_ix (r := rIxL K) ix_list (pv 0) pe_int (fun _ _ => rfl)) (pe_op op_mulW pe_int (pv 4))) pe_int) (fun _ _ => rfl)))
 (pss_one (ps_set (i := 5) sc__law_names.nd rfl (Or.inl rfl) (pe_op op_add_str (pe_op op_add_str (pe_ix ix_str (pv 2) (pe_op op_mod (pe_ix (r := rIxL K) ix_list (pv 0) pe_int (fun _ _ => rfl)) pe_int) (fun _ _ => rfl)) (pv 6)) (pe_ix ix_str (pv 2) (pe_op op_mod (pe_ix (r := rIxL K) ix_list (pv 0) pe_int (fun _ _ => rfl)) pe_int) (fun _ _ => rfl)))))) pss_nil)
 (pss_one (ps_expr (pe_bm PySem.F.plainAttrs_list PySem.F.slot_list_append PySem.F.type_list_append mt_append (pv 3) (pa_cons (pv 5) pa_nil)))))))))
 (pss_one (ps_ret (pe_callB (r := rSortedS K) cr_sortedS (by rfl) T.m_sorted (by decide +kernel) (pa_cons (pv 3) pa_nil))))))), ?_⟩
  walk_at "nk"
  obtain ⟨v1, v2, rfl, h1, h2⟩ := oall2 ha
  obtain ⟨ns, many⟩ := a
  have nr : NumsR 12 ns := hp.1
  have hm : many ≤ 8 := hp.2
  have h1 : LsAt K H v1 (intsD ns) := h1
  obtain rfl : v2 = .int (many : Nat) := Im.int_inv h2
  obtain ⟨x0, g0, b0, c0⟩ := nr.get 0 (by decide)
  obtain ⟨x1, g1, b1, c1⟩ := nr.get 1 (by decide)
  obtain ⟨x2, g2, b2, c2⟩ := nr.get 2 (by decide)
  obtain ⟨x3, g3, b3, c3⟩ := nr.get 3 (by decide)
  have xs : ∀ {σ : L2.St} {H9 : Hp}, σ[0]? = some (some v1) → Same H H9 → Ev (tVar 0) σ H9 (oL K (intsD ns)) := fun e s => ev_varLs e (h1.same s)
  have X : ∀ {σ : L2.St} {H9 : Hp} (k : Nat) {kk n : Int}, kk = (k : Int) → ns[k]? = some n → σ[0]? = some (some v1) → Same H H9 → Ev (tOp (rIxL K) (tVar 0) (tC (.int kk))) σ H9 (oI K (.int n)) := fun {σ H9} k {kk n} hk g e s => ev_num k hk (xs e s) g
  obtain ⟨m, gm, m1, m2⟩ := pick_get (l := [1, 5]) (w := (x3 % 2).toNat) (a := 1) (b := 5) (by have := mod_bd x3 (j := 2) (by decide); simp; omega) (by decide)
  have em : x3 % 2 = (((x3 % 2).toNat : Nat) : Int) := by have := mod_bd x3 (j := 2) (by decide); omega
  refine q_set (ev_str (K := K)) fun u H1 s1 p1 => ?_
  obtain rfl := Im.str_inv p1
  refine q_set (ev_nil (K := K)) fun u H2 s2 p2 => ?_
  obtain ⟨lf, xf, rfl, nf, ef, if_⟩ := p2
  cases if_
  have nf0 : H lf = none := s1.free nf
  have s02 := s1.trans s2
  refine q_for (evi_rng1 (K := K) (n := (many : Nat)) (ev_varI (i := 1) rfl (Im.int _)) ⟨by omega, by omega⟩) fun H3 s3 => ?_
  have s03 := s02.trans s3
  let nm : Nat → Str := nmK x0 x1 x2 x3 m
  let Pv : Nat → L2.St → Hp → Prop := fun i σ' H' => ∃ x4 x5 x6, σ' = [some v1, some (.int (many : Nat)), some (.str abc26), some (.ref lf), x4, x5, x6] ∧ Same H H' ∧ TupKeep H3 H' ∧ H' lf = some (.lst (((List.range i).map nm).map V.str))
  refine ⟨Pv, ⟨none, none, none, rfl, s03, TupKeep.refl _, s3 _ _ ef⟩, fun i σ' H' ⟨_, _, _, _, _, k, _⟩ => k, ?_, ?_⟩
  · rintro i d y σ' H' H'' hd ⟨x4, x5, x6, rfl, sH, tk, el⟩ smm hy
    obtain ⟨i', hi', rfl, him⟩ := get_map hd
    obtain rfl : i' = i := by
      obtain ⟨_, e⟩ := List.getElem?_eq_some_iff.mp hi'
      rw [List.getElem_range] at e
      exact e.symm
    have hib := List.mem_range.mp him
    have i8 : i' < 8 := by omega
    obtain rfl := Im.int_inv hy
    have sH2 := sH.trans smm
    have a26 := fun i : Int => mod_bd i (j := 26) (by decide)
    have LT : ∀ {σ : L2.St} {H9 : Hp}, σ[2]? = some (some (.str abc26)) → Ev (tVar 2) σ H9 (oI K (.str abc26)) := fun e => ev_varI e (Im.str _)
    have KK : ∀ {σ : L2.St} {H9 : Hp}, σ[4]? = some (some (.int (i' : Nat))) → Ev (tVar 4) σ H9 (oI K (.int (i' : Nat))) := fun e => ev_varI e (Im.int _)
    have ab : abc26.length ≤ 1000 := by decide +kernel
    have ab8 : abc8.length ≤ 1000 := by decide +kernel
    have one : ∀ c : Nat, (⟨#[c]⟩ : Str).length ≤ 1000 := fun c => (by decide : 1 ≤ 1000)
    -- a letter by a mod 26
    have letter : ∀ {σ : L2.St} {H9 : Hp} {ti : TE} {j : Int}, σ[2]? = some (some (.str abc26)) → Ev ti σ H9 (oI K (.int j)) → Ev (tOp rIxS (tVar 2) (tOp (rI (fun _ j => 0 < j) fun i j => .int (i % j)) ti (tC (.int 26)))) σ H9 (oI K (.str (chr1 (j % 26)))) := fun e h =>
      ev_ixS (LT e) (ev_mod h ev_int (by decide)) ab (abc26_i (a26 _))
    have m5 := mod_bd (x2 + 3 * (i' : Int)) (j := m) (by omega)
    have m8 := mod_bd x3 (j := 8) (by decide)
    have kind : ∀ {σ : L2.St} {H9 : Hp} {c : Int}, σ[0]? = some (some v1) → Same H H9 → EvB (tTest (tOp rEq (tOp (rI (fun _ j => 0 < j) fun i j => .int (i % j)) (tOp (rIxL K) (tVar 0) (tC (.int 1))) (tC (.int 4))) (tC (.int c)))) σ H9 (decide (x1 % 4 = c)) := fun e s => evb_test (ev_eqI (K := K) (ev_mod (X 1 rfl g1 e s) ev_int (by decide)) ev_int)
    show tSeq _ _ _ _ _
    refine q_set (ev_mulS (K := K) (letter rfl (ev_add (X 0 rfl g0 rfl sH2) (ev_mul ev_int (KK rfl) (cm_of (by omega) (by omega))))) (ev_add ev_int (ev_mod (ev_add (X 2 rfl g2 rfl sH2) (ev_mul ev_int (KK rfl) (cm_of (by omega) (by omega)))) (ev_pick [1, 5] (x3 % 2).toNat em (ev_mod (X 3 rfl g3 rfl sH2) ev_int (by decide)) gm (by decide)) (by omega))) (by omega) (by omega) (one _)) fun u H4 s4 p4 => ?_
    obtain rfl := Im.str_inv p4
    have t4 := sH2.trans s4
    refine q_whenSet (b := decide (x1 % 4 = 1)) (P := oI K (.str (if x1 % 4 = 1 then nm1 x2 x3 i' else nm0 x0 x2 x3 i' m))) (kind rfl t4) rfl (fun hb => ?_) (fun hb => ?_) fun u H5 s5 p5 => ?_
    · rw [if_pos (of_decide_eq_true hb)]
      exact ev_addS (ev_ixS (z := abc8) ev_str (KK rfl) ab8 (abc8_i ⟨by omega, by omega⟩)) (ev_mulS (letter rfl (X 2 rfl g2 rfl t4)) (ev_mod (X 3 rfl g3 rfl t4) ev_int (by decide)) (by omega) (by omega) (one _)) (by
        show 1 + (repS (chr1 (x2 % 26)) (x3 % 8)).cps.size ≤ 100000
        rw [← Array.length_toList, rep_chr, List.length_replicate]
        omega)
    · rw [if_neg (of_decide_eq_false hb)]
      exact Im.str _
    obtain rfl := Im.str_inv p5
    have t5 := t4.trans s5
    refine q_whenSet (b := decide (x1 % 4 = 2)) (P := oI K (.str (if x1 % 4 = 2 then nm2 x2 i' else if x1 % 4 = 1 then nm1 x2 x3 i' else nm0 x0 x2 x3 i' m))) (kind rfl t5) rfl (fun hb => ?_) (fun hb => ?_) fun u H6 s6 p6 => ?_
    · rw [if_pos (of_decide_eq_true hb)]
      exact ev_mulS (letter rfl (X 2 rfl g2 rfl t5)) (ev_add ev_int (KK rfl)) (by omega) (by omega) (one _)
    · rw [if_neg (of_decide_eq_false hb)]
      exact Im.str _
    obtain rfl := Im.str_inv p6
    have t6 := t5.trans s6
    have fin : ∀ {D : Ends} {x6 : Option V} {H9 : Hp}, D.nx = Pv (i' + 1) → Same H6 H9 → tDrop (tBM K "list" rAppend (tVar 3) (tCons (tVar 5) tNil)) D [some v1, some (.int (many : Nat)), some (.str abc26), some (.ref lf), some (.int (i' : Nat)), some (.str (nm i')), x6] H9 := fun {D x6 H9} hD s9 => by
      have e9 := ((((smm.trans s4).trans s5).trans s6).trans s9) _ _ el
      refine s_app e9 (ev_varV (i := 3) rfl) (P := oI K (.str (nm i'))) (ev_varI (i := 5) rfl (Im.str _)) (by rw [List.length_map, List.length_map, List.length_range]; omega) fun u H10 s10 p10 => ?_
      obtain rfl := Im.str_inv p10
      rw [hD]
      refine ⟨_, _, _, rfl, same_mut ((t6.trans s9).trans s10) nf0, (tk.trans (tk_same ((((smm.trans s4).trans s5).trans s6).trans (s9.trans s10)))).trans (tk_upd (s10 _ _ e9) trivial), ?_⟩
      rw [upd_same, List.range_succ, List.map_append, List.map_append]
      rfl
    refine q_when (kind rfl t6) (fun hb H7 s7 => ?_) fun hb H7 s7 => ?_
    · have hb := of_decide_eq_true hb
      have e : nm i' = nm3 x0 x2 x3 i' := if_pos hb
      have t7 := t6.trans s7
      refine q_set (letter rfl (ev_add (X 3 rfl g3 rfl t7) (ev_mul ev_int (KK rfl) (cm_of (by omega) (by omega))))) fun u H8 s8 p8 => ?_
      obtain rfl := Im.str_inv p8
      refine s_set (ev_addS (K := K) (ev_addS (letter rfl (X 2 rfl g2 rfl (t7.trans s8))) (ev_varI (i := 6) rfl (Im.str _)) (by show 1 + 1 ≤ 100000; omega)) (letter rfl (X 0 rfl g0 rfl (t7.trans s8))) (by
        show (chr1 (x2 % 26) ++ chr1 ((x3 + 5 * (i' : Int)) % 26)).cps.size + 1 ≤ 100000
        rw [← Array.length_toList, app_list, chr_list, chr_list]
        show 2 + 1 ≤ 100000
        omega)) fun u H9 s9 p9 => ?_
      obtain rfl := Im.str_inv p9
      have := fin (D := { nx := Pv (i' + 1), ct := Pv (i' + 1), rt := Q, bk := tRet (tCB (rSortedS K) (tCons (tVar 3) tNil)) { nx := fun x H' => Q V.non H', rt := Q } }) (x6 := some (.str (chr1 ((x3 + 5 * (i' : Int)) % 26)))) rfl ((s7.trans s8).trans s9)
      rw [e] at this
      exact this
    · have hb := of_decide_eq_false hb
      have e : nm i' = if x1 % 4 = 2 then nm2 x2 i' else if x1 % 4 = 1 then nm1 x2 x3 i' else nm0 x0 x2 x3 i' m := if_neg hb
      have := fin (D := { nx := Pv (i' + 1), ct := Pv (i' + 1), rt := Q, bk := tRet (tCB (rSortedS K) (tCons (tVar 3) tNil)) { nx := fun x H' => Q V.non H', rt := Q } }) (x6 := x6) rfl s7
      rw [e] at this
      exact this
  · rintro σ' H' ⟨x4, x5, x6, rfl, sH, tk, el⟩
    have e : ((List.range ((many : Nat) : Int).toNat).map fun (i : Nat) => PyData.int i).length = many := by rw [List.length_map, List.length_range]; omega
    rw [e] at el
    refine s_ret (ev_sortS (K := K) (ss := (List.range many).map nm) (ev_varL (i := 3) rfl el (ImAll.of_strs _)) (by rw [List.length_map, List.length_range]; omega)) fun v H7 s7 ⟨ys, ⟨pm, srt⟩, p7⟩ => q v H7 (sH.trans s7) ⟨ys, ⟨by rw [pm.length_eq, List.length_map, List.length_range], ris_of sto_str (ris_pw srt) (pm.nodup_iff.mpr ?_), fun n hn => ?_⟩, LsNew.ls p7⟩
    · refine List.pairwise_map.mpr (List.Pairwise.imp_of_mem (fun {i j} hi hj ne => fun e => ne ?_) List.nodup_range)
      have h1 := List.mem_range.mp hi
      have h2 := List.mem_range.mp hj
      exact nm_inj (by omega) (by omega) ⟨m1, m2⟩ e
    · obtain ⟨i, hi, rfl⟩ := List.mem_map.mp (pm.mem_iff.mp hn)
      have := List.mem_range.mp hi
      exact nm_good (by omega) ⟨m1, m2⟩
theorem ev__law_names {σ : L2.St} {H : Hp} {ta tb : TE} {ns : List Int} {m : Nat} (h : Ev ta σ H (oL K (intsD ns))) (l : Ev tb σ H (oI K (.int (m : Nat)))) (hn : NumsR 12 ns) (hm : m ≤ 8) : Ev (tCall (sp__law_names K) [] E0 (tCons ta (tCons tb tNil))) σ H (oE (NamesR m) fun ns => oL K (ns.map .str)) := ev_call (ns, m) (eva_cons h (eva_cons l eva_nil)) ⟨hn, hm⟩
end
end Cut
end
section
namespace Cut
open PySem PySem.Spec PyProof.Rows L2
local macro_rules | `(tactic| walk_at "nk") => `(tactic| first | dsimp only [cxOf, Cx.nox, Cx.wish, Cx.blk] | skip)
local macro_rules | `(tactic| walk_at "im") => `(tactic| first
  | assumption
  | exact Im.int _ | exact Im.str _ | exact Im.bl _ | exact Im.non
  | (refine Im.same (by assumption) ?_; walk_at "im"))
local macro_rules | `(tactic| walk_at "side") => `(tactic| first | assumption | rfl | omega)
local macro_rules | `(tactic| walk_at "ev") => `(tactic| first
  | (with_reducible exact ev_int) | (with_reducible exact ev_str) | (with_reducible exact ev_bl) | (with_reducible exact ev_non)
  | ((with_reducible apply ev_varI); rfl; walk_at "im")
  | ((with_reducible apply ev_ixT); walk_at "ev"; walk_at "ev"; walk_at "side")
  | ((with_reducible apply ev_add); walk_at "ev"; walk_at "ev")
  | ((with_reducible apply ev_sub); walk_at "ev"; walk_at "ev")
  | ((with_reducible apply ev_mul); walk_at "ev"; walk_at "ev"; walk_at "side")
  | ((with_reducible apply ev_div); walk_at "ev"; walk_at "ev"; walk_at "side")
  | ((with_reducible apply ev_mod); walk_at "ev"; walk_at "ev"; walk_at "side")
  | ((with_reducible apply ev_eqI); walk_at "ev"; walk_at "ev")
  | ((with_reducible apply ev_neI); walk_at "ev"; walk_at "ev")
  | ((with_reducible apply ev_eqS); walk_at "ev"; walk_at "ev")
  | ((with_reducible apply ev_neS); walk_at "ev"; walk_at "ev")
  | ((with_reducible apply ev_cmp); walk_at "ev"; walk_at "ev")
  | ((with_reducible apply ev_tup1); walk_at "ev")
  | ((with_reducible apply ev_tup2); walk_at "ev"; walk_at "ev")
  | ((with_reducible apply ev_tup3); walk_at "ev"; walk_at "ev"; walk_at "ev")
  | ((with_reducible apply ev_tup4); walk_at "ev"; walk_at "ev"; walk_at "ev"; walk_at "ev")
  | ((with_reducible apply ev_tup5); walk_at "ev"; walk_at "ev"; walk_at "ev"; walk_at "ev"; walk_at "ev")
  | ((with_reducible apply ev_lenT); walk_at "ev")
  | ((with_reducible apply ev_abs); walk_at "ev")
  | ((with_reducible apply ev_tupleL); walk_at "ev")
  | ((with_reducible apply ev_notV); walk_at "ev")
  | assumption)

/-! places and prices drawn -/
section
variable {K : PySem.W.Frag} {σ : L2.St} {H : Hp} {te ta tb tt te2 : TE} {t : TT} {D : Ends} {tz : TS} {tl : TA}
theorem q_whenPar {i j : Nat} {b : Bool} {P1 P2 : Ob} {o1 o2 : V} (h : EvB t σ H b) (e : (σ.set i (some o1)).set j (some o2) = σ) (h1 : b = true → EvA tl σ H [P1, P2]) (h2 : b = false → P1.p o1 H ∧ P2.p o2 H)
    (k : ∀ v w H1, Same H H1 → P1.p v H1 → P2.p w H1 → tz D ((σ.set i (some v)).set j (some w)) H1) : tSeq (tIfS t (tPar i j tl) tNext) tz D σ H := by
  refine q_when h (fun hb H1 s1 => s_par ((h1 hb).same s1) fun v w H2 s2 p2 q2 => k v w H2 (s1.trans s2) p2 q2) fun hb H1 s1 => ?_
  obtain ⟨a1, a2⟩ := h2 hb
  have := k o1 o2 H1 s1 (P1.mono _ _ _ s1 a1) (P2.mono _ _ _ s1 a2)
  rw [e] at this
  exact this
theorem q_whenSet2 {i j : Nat} {b : Bool} {P1 P2 : Ob} {o1 o2 : V} (h : EvB t σ H b) (e : (σ.set i (some o1)).set j (some o2) = σ) (h1 : b = true → Ev te σ H P1) (h1' : b = true → ∀ v H1, Same H H1 → P1.p v H1 → Ev te2 (σ.set i (some v)) H1 P2) (h2 : b = false → P1.p o1 H ∧ P2.p o2 H)
    (k : ∀ v w H1, Same H H1 → P1.p v H1 → P2.p w H1 → tz D ((σ.set i (some v)).set j (some w)) H1) : tSeq (tIfS t (tSeq (tAsg te (gName i)) (tAsg te2 (gName j))) tNext) tz D σ H := by
  refine q_when h (fun hb H1 s1 => ?_) fun hb H1 s1 => ?_
  · refine q_set ((h1 hb).same s1) fun v H2 s2 p2 => ?_
    exact s_set (h1' hb v H2 (s1.trans s2) p2) fun w H3 s3 p3 => k v w H3 ((s1.trans s2).trans s3) (P1.mono _ _ _ s3 p2) p3
  · obtain ⟨a1, a2⟩ := h2 hb
    have := k o1 o2 H1 s1 (P1.mono _ _ _ s1 a1) (P2.mono _ _ _ s1 a2)
    rw [e] at this
    exact this
end
structure PlaceR (name : Str) (top : Int) (z : Place) : Prop where
  n : z.n = name
  a : 0 ≤ z.a ∧ z.a ≤ 1000
  b : 0 ≤ z.b ∧ z.b ≤ 1000
  d : 0 ≤ z.d ∧ z.d ≤ 1000
  c : top * z.d ≤ z.c ∧ z.c ≤ 20000
structure PlA where
  name : Str
  xs : List Int
  top : Int
  wide : Nat
section
variable {P : Program} {w : World} {K : PySem.W.Frag} {mg : Str → Option Value} {base : Heap}
def sp__law_place (K : PySem.W.Frag) : Sp := spD (α := PlA) (fun a => [oI K (.str a.name), oL K (intsD a.xs), oI K (.int a.top), oI K (.int (a.wide : Nat))]) (fun a => NumsR 5 a.xs ∧ (1 ≤ a.top ∧ a.top ≤ 9) ∧ a.wide ≤ 3) fun a => oE (PlaceR a.name a.top) fun z => oI K (placeD z)
theorem at__law_place (T : Tx K mg) : At P w K mg base 1 "_law_place" ["_law_name", "_law_xs", "_law_top", "_law_wide"] (sp__law_place K) := by
  refine at_of T.d__law_place sc__law_place (fun _ => rfl) fun f cdv A outer s H vs Q E a hr hp ha q => ?_
  refine ⟨_, (pss_cons (ps_set (i := 4) sc__law_place.nd rfl (Or.inl rfl) (pe_ix (r := rIxL K) ix_list (pe_lst (pa_cons pe_int (pa_cons pe_int (pa_cons pe_int (pa_cons pe_int pa_nil))))) (pv 3) (fun _ _ => rfl)))
 (pss_cons (ps_par3 (i := 5) (j := 6) (l := 7) rfl sc__law_place.nd rfl rfl rfl (by decide) (by decide) (by decide) rfl rfl rfl (pa_cons (pe_op op_mod (pe_ix (r := rIxL K) ix_list (pv 1) pe_int (fun _ _ => rfl)) (pv 4)) (pa_cons (pe_op op_mod (pe_ix (r := rIxL K) ix_list (pv 1) pe_int (fun _ _ => rfl)) (pe_ix (r := rIxL K) ix_list (pe_lst (pa_cons pe_int (pa_cons pe_int (pa_cons pe_int (pa_cons pe_int pa_nil))))) (pv 3) (fun _ _ => rfl))) (pa_cons (pe_op op_mod (pe_ix (r := rIxL K) ix_list (pv 1) pe_int (fun _ _ => rfl)) (pe_ix (r := rIxL K) ix_list (pe_lst (pa_cons pe_int (pa_cons pe_int (pa_cons pe_int (pa_cons pe_int pa_nil))))) (pv 3) (fun _ _ => rfl))) pa_nil))) rfl)
 (pss_cons (ps_set (i := 8) sc__law_place.nd rfl (Or.inl rfl) (pe_op op_add (pe_op op_mulW (pv 7) (pv 2)) (pe_op op_mod (pe_ix (r := rIxL K) ix_list (pv 1) pe_int (fun _ _ => rfl)) (pe_ix (r := rIxL K) ix_list (pe_lst (pa_cons pe_int (pa_cons pe_int (pa_cons pe_int (pa_cons pe_int pa_nil))))) (pv 3) (fun _ _ => rfl)))))
 (pss_cons (ps_if (pt_cmpR op_eq (pe_op op_mod (pe_ix (r := rIxL K) ix_list (pv 1) pe_int (fun _ _ => rfl)) pe_int) pe_int (nomark _)) (pss_one (ps_par (i := 5) (j := 6) rfl sc__law_place.nd rfl rfl (by decide) rfl rfl (pa_cons pe_int (pa_cons (pe_op op_mod (pe_op op_fdivW (pe_ix (r := rIxL K) ix_list (pv 1) pe_int (fun _ _ => rfl)) pe_int) pe_int) pa_nil)) rfl)) pss_nil)
 (pss_cons (ps_if (pt_cmpR op_eq (pe_op op_mod (pe_ix (r := rIxL K) ix_list (pv 1) pe_int (fun _ _ => rfl)) pe_int) pe_int (nomark _)) (pss_cons (ps_set (i := 7) sc__law_place.nd rfl (Or.inl rfl) pe_int)
 (pss_one (ps_set (i := 8) sc__law_place.nd rfl (Or.inl rfl) (pe_op op_mod (pe_ix (r := rIxL K) ix_list (pv 1) pe_int (fun _ _ => rfl)) (pe_ix (r := rIxL K) ix_list (pe_lst (pa_cons pe_int (pa_cons pe_int (pa_cons pe_int (pa_cons pe_int pa_nil))))) (pv 3) (fun _ _ => rfl)))))) pss_nil)
 (pss_one (ps_ret (pe_tup (pa_cons (pv 0) (pa_cons (pv 5) (pa_cons (pv 6) (pa_cons (pv 8) (pa_cons (pv 7) pa_nil))))))))))))), ?_⟩
  walk_at "nk"
  obtain ⟨v1, v2, v3, v4, rfl, h1, h2, h3, h4⟩ := oall4 ha
  obtain ⟨name, ns, top, wide⟩ := a
  have nr : NumsR 5 ns := hp.1
  have ht : 1 ≤ top ∧ top ≤ 9 := hp.2.1
  have hwd : wide ≤ 3 := hp.2.2
  obtain rfl : v1 = .str name := Im.str_inv h1
  have h2 : LsAt K H v2 (intsD ns) := h2
  obtain rfl : v3 = .int top := Im.int_inv h3
  obtain rfl : v4 = .int (wide : Nat) := Im.int_inv h4
  obtain ⟨x0, g0, b0, c0⟩ := nr.get 0 (by decide)
  obtain ⟨x1, g1, b1, c1⟩ := nr.get 1 (by decide)
  obtain ⟨x2, g2, b2, c2⟩ := nr.get 2 (by decide)
  obtain ⟨x3, g3, b3, c3⟩ := nr.get 3 (by decide)
  obtain ⟨x4, g4, b4, c4⟩ := nr.get 4 (by decide)
  have X : ∀ {σ : L2.St} {H9 : Hp} (k : Nat) {kk n : Int}, kk = (k : Int) → ns[k]? = some n → σ[1]? = some (some v2) → Same H H9 → Ev (tOp (rIxL K) (tVar 1) (tC (.int kk))) σ H9 (oI K (.int n)) := fun {σ H9} k {kk n} hk g e s => ev_num k hk (ev_varLs e (h2.same s)) g
  have WD : ∀ {σ : L2.St} {H9 : Hp}, σ[3]? = some (some (.int (wide : Nat))) → Ev (tVar 3) σ H9 (oI K (.int (wide : Nat))) := fun e => ev_varI e (Im.int _)
  obtain ⟨m0, q0, u0, u0'⟩ := pick_get (l := [4, 10, 100, 100]) (w := wide) (a := 1) (b := 100) (by simp; omega) (by decide)
  obtain ⟨m1, q1, u1, u1'⟩ := pick_get (l := [3, 5, 100, 100]) (w := wide) (a := 1) (b := 100) (by simp; omega) (by decide)
  obtain ⟨m2, q2, u2, u2'⟩ := pick_get (l := [2, 4, 100, 100]) (w := wide) (a := 1) (b := 100) (by simp; omega) (by decide)
  obtain ⟨m3, q3, u3, u3'⟩ := pick_get (l := [5, 20, 100, 100]) (w := wide) (a := 1) (b := 100) (by simp; omega) (by decide)
  obtain ⟨m4, q4, u4, u4'⟩ := pick_get (l := [5, 20, 1000, 1000]) (w := wide) (a := 1) (b := 1000) (by simp; omega) (by decide)
  refine q_set (ev_pick (K := K) [4, 10, 100, 100] wide rfl (WD rfl) q0 (by decide)) fun u H1 s1 p1 => ?_
  obtain rfl := Im.int_inv p1
  refine q_par3 (eva_cons (ev_mod (K := K) (X 0 rfl g0 rfl s1) (ev_varI (i := 4) rfl (Im.int _)) (by omega)) (eva_cons (ev_mod (X 1 rfl g1 rfl s1) (ev_pick (K := K) [3, 5, 100, 100] wide rfl (WD rfl) q1 (by decide)) (by omega)) (eva_cons (ev_mod (X 2 rfl g2 rfl s1) (ev_pick (K := K) [2, 4, 100, 100] wide rfl (WD rfl) q2 (by decide)) (by omega)) eva_nil))) fun ua ub ud H2 s2 pa pb pd => ?_
  obtain rfl := Im.int_inv pa
  obtain rfl := Im.int_inv pb
  obtain rfl := Im.int_inv pd
  have s02 := s1.trans s2
  have ba := mod_bd x0 (j := m0) (by omega)
  have bb := mod_bd x1 (j := m1) (by omega)
  have bd := mod_bd x2 (j := m2) (by omega)
  have bc := mod_bd x3 (j := m3) (by omega)
  have bc4 := mod_bd x3 (j := m4) (by omega)
  generalize x0 % m0 = a at ba
  generalize x1 % m1 = b at bb
  generalize x2 % m2 = d at bd
  have dt : d * top ≤ 100 * 9 := Int.mul_le_mul (by omega) ht.2 (by omega) (by omega)
  have dt0 : 0 ≤ d * top := Int.mul_nonneg bd.1 (by omega)
  refine q_set (ev_add (K := K) (ev_mul (ev_varI (i := 7) rfl (Im.int _)) (ev_varI (i := 2) rfl (Im.int _)) (cm_of (by omega) (by omega))) (ev_mod (X 3 rfl g3 rfl s02) (ev_pick (K := K) [5, 20, 100, 100] wide rfl (WD rfl) q3 (by decide)) (by omega))) fun uc H3 s3 pc => ?_
  obtain rfl := Im.int_inv pc
  generalize x3 % m3 = r3 at bc
  have s03 := s02.trans s3
  have kind : ∀ {σ : L2.St} {H9 : Hp} {c : Int}, σ[1]? = some (some v2) → Same H H9 → EvB (tTest (tOp rEq (tOp (rI (fun _ j => 0 < j) fun i j => .int (i % j)) (tOp (rIxL K) (tVar 1) (tC (.int 4))) (tC (.int 5))) (tC (.int c)))) σ H9 (decide (x4 % 5 = c)) := fun e s => evb_test (ev_eqI (K := K) (ev_mod (X 4 rfl g4 e s) ev_int (by decide)) ev_int)
  have b8 := mod_bd (x1 / 8) (j := 3) (by decide)
  refine q_whenPar (b := decide (x4 % 5 = 1)) (P1 := oI K (.int (if x4 % 5 = 1 then 0 else a))) (P2 := oI K (.int (if x4 % 5 = 1 then x1 / 8 % 3 else b))) (kind rfl s03) rfl (fun hb => ?_) (fun hb => ?_) fun va vb H4 s4 p4 p5 => ?_
  · rw [if_pos (of_decide_eq_true hb), if_pos (of_decide_eq_true hb)]
    exact eva_cons ev_int (eva_cons (ev_mod (ev_div (X 1 rfl g1 rfl s03) ev_int (cd_of (by decide) (by decide))) ev_int (by decide)) eva_nil)
  · rw [if_neg (of_decide_eq_false hb), if_neg (of_decide_eq_false hb)]
    exact ⟨Im.int _, Im.int _⟩
  obtain rfl := Im.int_inv p4
  obtain rfl := Im.int_inv p5
  have s04 := s03.trans s4
  refine q_whenSet2 (b := decide (x4 % 5 = 2)) (P1 := oI K (.int (if x4 % 5 = 2 then 0 else d))) (P2 := oI K (.int (if x4 % 5 = 2 then x3 % m4 else d * top + r3))) (kind rfl s04) rfl (fun hb => ?_) (fun hb v H9 s9 p9 => ?_) (fun hb => ?_) fun vd vc H5 s5 p6 p7 => ?_
  · rw [if_pos (of_decide_eq_true hb)]
    exact ev_int
  · rw [if_pos (of_decide_eq_true hb)]
    exact ev_mod (X 3 rfl g3 rfl (s04.trans s9)) (ev_pick (K := K) [5, 20, 1000, 1000] wide rfl (WD rfl) q4 (by decide)) (by omega)
  · rw [if_neg (of_decide_eq_false hb), if_neg (of_decide_eq_false hb)]
    exact ⟨Im.int _, Im.int _⟩
  obtain rfl := Im.int_inv p6
  obtain rfl := Im.int_inv p7
  refine s_ret (ev_tup5 (K := K) (ev_varI (i := 0) rfl (Im.str name)) (ev_varI (i := 5) rfl (Im.int _)) (ev_varI (i := 6) rfl (Im.int _)) (ev_varI (i := 8) rfl (Im.int _)) (ev_varI (i := 7) rfl (Im.int _))) fun v H6 s6 p8 => q v H6 ((s04.trans s5).trans s6) ⟨⟨name, _, _, _, _⟩, ⟨rfl, ?_, ?_, ?_, ?_⟩, p8⟩
  · show 0 ≤ (if x4 % 5 = 1 then (0 : Int) else a) ∧ (if x4 % 5 = 1 then (0 : Int) else a) ≤ 1000
    split <;> omega
  · show 0 ≤ (if x4 % 5 = 1 then x1 / 8 % 3 else b) ∧ (if x4 % 5 = 1 then x1 / 8 % 3 else b) ≤ 1000
    split <;> omega
  · show 0 ≤ (if x4 % 5 = 2 then (0 : Int) else d) ∧ (if x4 % 5 = 2 then (0 : Int) else d) ≤ 1000
    split <;> omega
  · show top * (if x4 % 5 = 2 then (0 : Int) else d) ≤ (if x4 % 5 = 2 then x3 % m4 else d * top + r3) ∧ (if x4 % 5 = 2 then x3 % m4 else d * top + r3) ≤ 20000
    have cm : top * d = d * top := Int.mul_comm _ _
    split
    · rw [Int.mul_zero]
      omega
    · rw [cm]
      omega
theorem ev__law_place {σ : L2.St} {H : Hp} {ta tb tc td : TE} (a : PlA) (h1 : Ev ta σ H (oI K (.str a.name))) (h2 : Ev tb σ H (oL K (intsD a.xs))) (h3 : Ev tc σ H (oI K (.int a.top))) (h4 : Ev td σ H (oI K (.int (a.wide : Nat)))) (hn : NumsR 5 a.xs) (ht : 1 ≤ a.top ∧ a.top ≤ 9) (hw : a.wide ≤ 3) :
    Ev (tCall (sp__law_place K) [] E0 (tCons ta (tCons tb (tCons tc (tCons td tNil))))) σ H (oE (PlaceR a.name a.top) fun z => oI K (placeD z)) := ev_call a (eva_cons h1 (eva_cons h2 (eva_cons h3 (eva_cons h4 eva_nil)))) ⟨hn, ht, hw⟩
def sp__law_low (K : PySem.W.Frag) : Sp := spD (α := Int × Int) (fun a => [oI K (.int a.1), oI K (.int a.2)]) (fun a => 0 < a.2 ∧ Bt 8000 a.2) fun a => oI K (frD (red a.1 a.2))
theorem at__law_low (T : Tx K mg) : At P w K mg base 1 "_law_low" ["_law_top", "_law_bottom"] (sp__law_low K) := by
  refine at_of T.d__law_low sc__law_low (fun _ => rfl) fun f cdv A outer s H vs Q E a hr hp ha q => ?_
  refine ⟨_, (pss_cons (ps_par (i := 2) (j := 3) rfl sc__law_low.nd rfl rfl (by decide) rfl rfl (pa_cons (pe_callB cr_abs (by rfl) T.m_abs (by decide +kernel) (pa_cons (pv 0) pa_nil)) (pa_cons (pe_callB cr_abs (by rfl) T.m_abs (by decide +kernel) (pa_cons (pv 1) pa_nil)) pa_nil)) rfl)
 (pss_cons (ps_while PassesOwn.never (pt_cmpR op_gt (pv 3) pe_int (nomark _)) (pss_one (ps_par (i := 2) (j := 3) rfl sc__law_low.nd rfl rfl (by decide) rfl rfl (pa_cons (pv 3) (pa_cons (pe_op op_mod (pv 2) (pv 3)) pa_nil)) rfl)))
 (pss_cons (ps_if (pt_cmpR op_lt (pv 1) pe_int (nomark _)) (pss_one (ps_set (i := 2) sc__law_low.nd rfl (Or.inl rfl) (pe_op op_sub pe_int (pv 2)))) pss_nil)
 (pss_one (ps_ret (pe_tup (pa_cons (pe_op op_fdivW (pv 0) (pv 2)) (pa_cons (pe_op op_fdivW (pv 1) (pv 2)) pa_nil)))))))), ?_⟩
  walk_at "nk"
  obtain ⟨v1, v2, rfl, h1, h2⟩ := oall2 ha
  obtain ⟨hb, hw⟩ := hp
  obtain rfl : v1 = .int a.1 := Im.int_inv h1
  obtain rfl : v2 = .int a.2 := Im.int_inv h2
  refine q_par (eva_cons (ev_abs (K := K) (ev_varI (i := 0) rfl (Im.int a.1))) (eva_cons (ev_abs (K := K) (ev_varI (i := 1) rfl (Im.int a.2))) eva_nil)) fun u1 u2 H1 s1 p1 p2 => ?_
  obtain rfl := Im.int_inv p1
  obtain rfl := Im.int_inv p2
  refine q_while (fun m σ' H' => ∃ h l : Nat, σ' = [some (.int a.1), some (.int a.2), some (.int h), some (.int l)] ∧ Same H H' ∧ Nat.gcd h l = Int.gcd a.1 a.2 ∧ l = m) _ ⟨a.1.natAbs, a.2.natAbs, rfl, s1, rfl, rfl⟩ fun m σ' H' hw2 => ?_
  obtain ⟨h, l, rfl, sm, hg, rfl⟩ := hw2
  refine ⟨decide ((0 : Int) < l), evb_test (ev_cmp (K := K) (ev_varI (i := 3) rfl (Im.int _)) ev_int), fun hbb H2 s2 => ?_, fun hbb H2 s2 => ?_⟩
  · have hl : (0 : Int) < l := of_decide_eq_true hbb
    refine s_par (eva_cons (ev_varI (K := K) (i := 3) rfl (Im.int (l : Nat))) (eva_cons (ev_mod (K := K) (ev_varI (i := 2) rfl (Im.int (h : Nat))) (ev_varI (i := 3) rfl (Im.int (l : Nat))) hl) eva_nil)) fun w1 w2 H3 s3 p3 p4 => ?_
    refine ⟨h % l, Nat.mod_lt _ (by omega), l, h % l, ?_, (sm.trans s2).trans s3, ?_, rfl⟩
    · rw [Im.int_inv p3, Im.int_inv p4, ← Int.natCast_emod]
      rfl
    · rw [← hg, Nat.gcd_comm l, ← Nat.gcd_rec, Nat.gcd_comm]
  · have hl : ¬ (0 : Int) < l := of_decide_eq_false hbb
    have hl0 : l = 0 := by omega
    subst hl0
    rw [Nat.gcd_zero_right] at hg
    subst hg
    refine q_skip (evb_is (evb_test (ev_cmp (K := K) (ev_varI (i := 1) rfl (Im.int a.2)) ev_int)) (decide_eq_false (by omega))) fun H3 s3 => ?_
    have hg : 0 < Int.gcd a.1 a.2 := Int.gcd_pos_of_ne_zero_right a.1 (by omega)
    have hd : ((Int.gcd a.1 a.2 : Nat) : Int).natAbs ≤ a.2.natAbs := Nat.le_of_dvd (by omega) (Int.gcd_dvd_natAbs_right a.1 a.2)
    have cd : ∀ i, CDivW i ((Int.gcd a.1 a.2 : Nat) : Int) := fun i => (hw.of hd).cd (by omega) (by decide) (by decide)
    exact s_ret (ev_tup2 (K := K) (ev_div (ev_varI (i := 0) rfl (Im.int a.1)) (ev_varI (i := 2) rfl (Im.int _)) (cd _)) (ev_div (ev_varI (i := 1) rfl (Im.int a.2)) (ev_varI (i := 2) rfl (Im.int _)) (cd _))) fun v H4 s4 p4 => q v H4 (((sm.trans s2).trans s3).trans s4) p4
theorem ev__law_low {σ : L2.St} {H : Hp} {ta tb : TE} {i j : Int} (h : Ev ta σ H (oI K (.int i))) (k : Ev tb σ H (oI K (.int j))) (h0 : 0 < j) (hb : Bt 8000 j) : Ev (tCall (sp__law_low K) [] E0 (tCons ta (tCons tb tNil))) σ H (oI K (frD (red i j))) := ev_call (i, j) (eva_cons h (eva_cons k eva_nil)) ⟨h0, hb⟩
theorem pr_of {W : Web} {n d : Int} (hd : 0 < d) (h0 : 0 ≤ n) (h1 : n ≤ W.top * d) (h2 : d ≤ 1000000000000) : PrOk W (red n d) := by
  have f := red_fv (n := n) hd
  refine ⟨f.can, (fv_nn hd f).mpr h0, ?_, ?_⟩
  · have e := f.eq
    have p := f.can.1
    have h3 : n * (red n d).2 ≤ W.top * d * (red n d).2 := Int.mul_le_mul_of_nonneg_right h1 (Int.le_of_lt p)
    have h4 : (red n d).1 * d ≤ (W.top * (red n d).2) * d := by
      rw [e]
      have : W.top * d * (red n d).2 = W.top * (red n d).2 * d := by grind
      omega
    exact Int.le_of_mul_le_mul_right h4 hd
  · have := (fv_top hd f).2
    have p := f.can.1
    omega
def sp__law_price (K : PySem.W.Frag) : Sp := spD (α := Web × Int × Int) (fun a => [oI K (webD a.1), oI K (.int a.2.1), oI K (.int a.2.2)]) (fun a => WebOk a.1 ∧ (0 ≤ a.2.1 ∧ a.2.1 < 2000000000) ∧ 0 ≤ a.2.2 ∧ a.2.2 < 2000000000) fun a => oE (PrOk a.1) fun L => oI K (frD L)
theorem at__law_price (T : Tx K mg) : At P w K mg base 2 "_law_price" ["_law_web_here", "_law_x", "_law_y"] (sp__law_price K) := by
  refine at_of T.d__law_price sc__law_price (fun _ => rfl) fun f cdv A outer s H vs Q E a hr hp ha q => ?_
  refine ⟨_, (pss_cons (ps_set (i := 3) sc__law_price.nd rfl (Or.inl rfl) (pe_op op_add pe_int (pe_op op_mod (pv 2) (pe_ix (r := rIxL K) ix_list (pe_lst (pa_cons pe_int (pa_cons pe_int (pa_cons pe_int (pa_cons pe_int (pa_cons pe_int (pa_cons pe_int (pa_cons pe_int (pa_cons pe_int pa_nil))))))))) (pe_op op_mod (pe_op op_fdivW (pv 2) pe_int) pe_int) (fun _ _ => rfl)))))
 (pss_one (ps_ret (pe_at (at__law_low T) (hr.mono (by decide)) (by rfl) (pa_cons (pe_op op_mod (pv 1) (pe_op op_add (pe_op op_mulW (pe_ix (r := rIxT K) ix_tup (pv 0) pe_int (fun _ _ => rfl)) (pv 3)) pe_int)) (pa_cons (pv 3) pa_nil)))))), ?_⟩
  walk_at "nk"
  obtain ⟨v1, v2, v3, rfl, h1, h2, h3⟩ := oall3 ha
  obtain ⟨W, x, y⟩ := a
  have hw : WebOk W := hp.1
  have hx : 0 ≤ x ∧ x < 2000000000 := hp.2.1
  have hy : 0 ≤ y ∧ y < 2000000000 := hp.2.2
  have h1 : Im K H v1 (webD W) := h1
  obtain rfl : v2 = .int x := Im.int_inv h2
  obtain rfl : v3 = .int y := Im.int_inv h3
  have m8 := mod_bd (y / 64) (j := 8) (by decide)
  have tp := hw.tp
  obtain ⟨m, gm, a1, a2⟩ := pick_get (l := [1, 2, 3, 7, 12, 60, 999983, 99999999977]) (w := (y / 64 % 8).toNat) (a := 1) (b := 99999999977) (by simp; omega) (by decide)
  have Y : ∀ {σ : L2.St} {H9 : Hp}, σ[2]? = some (some (.int y)) → Ev (tVar 2) σ H9 (oI K (.int y)) := fun e => ev_varI e (Im.int _)
  refine q_set (ev_add (K := K) ev_int (ev_mod (Y rfl) (ev_pick (K := K) [1, 2, 3, 7, 12, 60, 999983, 99999999977] (y / 64 % 8).toNat (by omega) (ev_mod (ev_div (Y rfl) ev_int (cd_of (by decide) (by decide))) ev_int (by decide)) gm (by decide)) (by omega))) fun u H1 s1 p1 => ?_
  obtain rfl := Im.int_inv p1
  have bm := mod_bd y (j := m) (by omega)
  generalize y % m = r at bm
  have tb : W.top * (1 + r) ≤ 9 * 100000000000 := Int.mul_le_mul (by omega) (by omega) (by omega) (by omega)
  have tb0 : 0 ≤ W.top * (1 + r) := Int.mul_nonneg (by omega) (by omega)
  have bx := mod_bd x (j := W.top * (1 + r) + 1) (by omega)
  refine s_ret (ev__law_low (K := K) (ev_mod (ev_varI (i := 1) rfl (Im.int x)) (ev_add (ev_mul (ev_ixT (i := 0) (ds := [.int W.top, .tuple (W.places.map placeD), .tuple (W.ties.map tieD)]) (ev_varI (i := 0) rfl (Im.same s1 h1)) ev_int rfl) (ev_varI (i := 3) rfl (Im.int _)) (cm_of (by omega) (by omega))) ev_int) (by omega)) (ev_varI (i := 3) rfl (Im.int _)) (by omega) (bt_small (by omega) (by omega) (by decide))) fun v H2 s2 p2 => q v H2 (s1.trans s2) ⟨_, pr_of (W := W) (by omega) bx.1 (by omega) (by omega), p2⟩
theorem ev__law_price {σ : L2.St} {H : Hp} {ta tb tc : TE} {W : Web} {x y : Int} (h : Ev ta σ H (oI K (webD W))) (k : Ev tb σ H (oI K (.int x))) (l : Ev tc σ H (oI K (.int y))) (hw : WebOk W) (hx : 0 ≤ x ∧ x < 2000000000) (hy : 0 ≤ y ∧ y < 2000000000) :
    Ev (tCall (sp__law_price K) [] E0 (tCons ta (tCons tb (tCons tc tNil)))) σ H (oE (PrOk W) fun L => oI K (frD L)) := ev_call (W, x, y) (eva_cons h (eva_cons k (eva_cons l eva_nil))) ⟨hw, hx, hy⟩
def sp__law_greater (K : PySem.W.Frag) : Sp := spD (α := Web × Str × Bool) (fun a => [oI K (webD a.1), oI K (.str a.2.1), oI K (.int (if a.2.2 = true then 1 else 0))]) (fun a => a.1.places.length ≤ 1000) fun a => oI K (webD (greater a.1 a.2.2 a.2.1))
theorem at__law_greater (T : Tx K mg) : At P w K mg base 1 "_law_greater" ["_law_web_here", "_law_name", "_law_which"] (sp__law_greater K) := by
  refine at_of T.d__law_greater sc__law_greater (fun _ => rfl) fun f cdv A outer s H vs Q E a hr hp ha q => ?_
  refine ⟨_, (pss_cons (ps_set (i := 3) sc__law_greater.nd rfl (Or.inl rfl) (pe_lst pa_nil))
 (pss_cons (ps_for PassesOwn.never rfl (show PI _ _ _ (iTup K _) from pi_tup (pe_ix (r := rIxT K) ix_tup (pv 0) pe_int (fun _ _ => rfl))) (pg_name (i := 4) sc__law_greater.nd rfl (Or.inl rfl)) (pss_cons (ps_if (PW.pt (pw_and (pt_cmpR op_eq (pe_ix (r := rIxT K) ix_tup (pv 4) pe_int (fun _ _ => rfl)) (pv 1) (nomark _)) (pw_and1 (pt_cmpR op_eq (pv 2) pe_int (nomark _))))) (pss_one (ps_set (i := 4) sc__law_greater.nd rfl (Or.inl rfl) (pe_op (r := rCatA K) op_catA (pe_tup (pa_cons (pv 1) (pa_cons (pe_op op_add (pe_ix (r := rIxT K) ix_tup (pv 4) pe_int (fun _ _ => rfl)) pe_int) pa_nil))) (pe_slice (r := rSlA K) sl_tupA (pv 4) (po_some pe_int) po_none)))) pss_nil)
 (pss_cons (ps_if (PW.pt (pw_and (pt_cmpR op_eq (pe_ix (r := rIxT K) ix_tup (pv 4) pe_int (fun _ _ => rfl)) (pv 1) (nomark _)) (pw_and1 (pt_cmpR op_eq (pv 2) pe_int (nomark _))))) (pss_one (ps_set (i := 4) sc__law_greater.nd rfl (Or.inl rfl) (pe_op (r := rCatA K) op_catA (pe_slice (r := rSlA K) sl_tupA (pv 4) po_none (po_some pe_int)) (pe_tup (pa_cons (pe_op op_add (pe_ix (r := rIxT K) ix_tup (pv 4) pe_int (fun _ _ => rfl)) pe_int) (pa_cons (pe_ix (r := rIxT K) ix_tup (pv 4) pe_int (fun _ _ => rfl)) pa_nil)))))) pss_nil)
 (pss_one (ps_expr (pe_bm PySem.F.plainAttrs_list PySem.F.slot_list_append PySem.F.type_list_append mt_append (pv 3) (pa_cons (pv 4) pa_nil)))))))
 (pss_one (ps_ret (pe_tup (pa_cons (pe_ix (r := rIxT K) ix_tup (pv 0) pe_int (fun _ _ => rfl)) (pa_cons (pe_callTy (r := rTupleOf K) cr_tupleOf (by rfl) T.m_tuple (by decide +kernel) (pa_cons (pv 3) pa_nil)) (pa_cons (pe_ix (r := rIxT K) ix_tup (pv 0) pe_int (fun _ _ => rfl)) pa_nil)))))))), ?_⟩
  walk_at "nk"
  obtain ⟨v1, v2, v3, rfl, h1, h2, h3⟩ := oall3 ha
  obtain ⟨W, nm, wh⟩ := a
  have hl : W.places.length ≤ 1000 := hp
  have h1 : Im K H v1 (webD W) := h1
  obtain rfl : v2 = .str nm := Im.str_inv h2
  obtain rfl : v3 = .int (if wh = true then 1 else 0) := Im.int_inv h3
  have w0 : ∀ {σ : L2.St} {H9 : Hp}, σ[0]? = some (some v1) → TupKeep H H9 → Ev (tVar 0) σ H9 (oI K (.tuple [.int W.top, .tuple (W.places.map placeD), .tuple (W.ties.map tieD)])) := fun e s => ev_varI e (h1.keep s)
  refine q_set (ev_nil (K := K)) fun u H1 s1 p1 => ?_
  obtain ⟨lf, xf, rfl, nf, ef, if_⟩ := p1
  cases if_
  refine q_for (evi_tup (ev_ixT (i := 1) (w0 rfl (tk_same s1)) ev_int rfl)) fun H2 s2 => ?_
  refine ⟨fun i σ' H' => ∃ x4 xs, σ' = [some v1, some (.str nm), some (.int (if wh = true then 1 else 0)), some (.ref lf), x4] ∧ Same H H' ∧ TupKeep H2 H' ∧ H' lf = some (.lst xs) ∧ ImAll K H' xs (((W.places.take i).map (greatP wh nm)).map placeD),
    ⟨none, [], rfl, s1.trans s2, TupKeep.refl _, s2 _ _ ef, .nil⟩, fun i σ' H' ⟨_, _, _, _, k, _⟩ => k, ?_, ?_⟩
  · rintro i d y σ' H' H'' hd ⟨x4, xs, rfl, sH, tk, el, il⟩ smm hy
    obtain ⟨z, hz, rfl, _⟩ := get_map hd
    have PP : ∀ {σ : L2.St} {H9 : Hp} {z : Place} {u : V}, σ[4]? = some (some u) → Im K H9 u (placeD z) → Ev (tVar 4) σ H9 (oI K (.tuple [.str z.n, .int z.a, .int z.b, .int z.c, .int z.d])) := fun e h => ev_varI e h
    have WH : ∀ {σ : L2.St} {H9 : Hp} {c : Int}, σ[2]? = some (some (.int (if wh = true then 1 else 0))) → EvB (tTest (tOp rEq (tVar 2) (tC (.int c)))) σ H9 (decide ((if wh = true then (1 : Int) else 0) = c)) := fun e => evb_test (ev_eqI (K := K) (ev_varI e (Im.int _)) ev_int)
    have NM : ∀ {σ : L2.St} {H9 : Hp} {z : Place} {u : V}, σ[4]? = some (some u) → σ[1]? = some (some (.str nm)) → Im K H9 u (placeD z) → EvB (tTest (tOp rEq (tOp (rIxT K) (tVar 4) (tC (.int 0))) (tVar 1))) σ H9 (decide (z.n = nm)) := fun {σ H9 z u} e e' h => evb_test (ev_eqS (K := K) (ev_ixT (i := 0) (PP (z := z) e h) ev_int rfl) (ev_varI e' (Im.str _)))
    show tSeq _ _ _ _ _
    let z1 : Place := if z.n = nm ∧ wh = false then { z with a := z.a + 1 } else z
    refine q_whenSet (b := decide (z.n = nm) && decide ((if wh = true then (1 : Int) else 0) = 0)) (o := y) (P := oI K (placeD z1)) (evb_and (NM (z := z) rfl rfl hy) fun _ => WH rfl) rfl (fun hb => ?_) (fun hb => ?_) fun u H4 s4 p4 => ?_
    · rw [Bool.and_eq_true] at hb
      have e1 := of_decide_eq_true hb.1
      have e2 : wh = false := by
        have := of_decide_eq_true hb.2
        cases wh with
        | false => rfl
        | true => simp at this
      have ez : z1 = { z with a := z.a + 1 } := if_pos ⟨e1, e2⟩
      rw [ez]
      refine ev_isD (ev_catT (K := K) (ds := [.str nm, .int (z.a + 1)]) (es := [.int z.b, .int z.c, .int z.d]) (ev_tup2 (ev_varI (i := 1) rfl (Im.str _)) (ev_add (ev_ixT (i := 1) (PP (z := z) rfl hy) ev_int rfl) ev_int)) (ev_isD (ev_sliceT (PP (z := z) rfl hy) (evo_some (K := K) (ev_int (K := K))) evo_none) rfl) (by simp)) (by rw [← e1]; rfl)
    · have ez : z1 = z := if_neg fun q => by
        rw [decide_eq_true q.1, q.2] at hb
        simp at hb
      rw [ez]
      exact hy
    let z2 := greatP wh nm z
    refine q_whenSet (b := decide (z1.n = nm) && decide ((if wh = true then (1 : Int) else 0) = 1)) (o := u) (P := oI K (placeD z2)) (evb_and (NM (z := z1) rfl rfl p4) fun _ => WH rfl) rfl (fun hb => ?_) (fun hb => ?_) fun u2 H5 s5 p5 => ?_
    · rw [Bool.and_eq_true] at hb
      have e2 : wh = true := by
        have := of_decide_eq_true hb.2
        cases wh with
        | true => rfl
        | false => simp at this
      have ez : z1 = z := if_neg fun q => by
        rw [q.2] at e2
        cases e2
      have e1 := of_decide_eq_true hb.1
      rw [ez] at e1 p4
      have eg : z2 = { z with c := z.c + 1 } := by
        show greatP wh nm z = _
        unfold greatP
        rw [if_pos e1, if_pos e2]
      rw [eg]
      exact ev_isD (ev_catT (K := K) (ds := [.str z.n, .int z.a, .int z.b]) (es := [.int (z.c + 1), .int z.d]) (ev_isD (ev_sliceT (PP (z := z) rfl p4) evo_none (evo_some (K := K) (ev_int (K := K)))) rfl) (ev_tup2 (ev_add (ev_ixT (i := 3) (PP (z := z) rfl p4) ev_int rfl) ev_int) (ev_ixT (i := 4) (PP (z := z) rfl p4) ev_int rfl)) (by simp)) rfl
    · have eg : z2 = z1 := by
        show greatP wh nm z = if z.n = nm ∧ wh = false then { z with a := z.a + 1 } else z
        unfold greatP
        by_cases e1 : z.n = nm
        · cases wh with
          | false => rw [if_pos e1, if_neg (by decide), if_pos ⟨e1, rfl⟩]
          | true =>
            exfalso
            have ez : z1 = z := if_neg fun q => by cases q.2
            rw [ez, decide_eq_true e1] at hb
            simp at hb
        · rw [if_neg e1, if_neg fun q => e1 q.1]
      rw [eg]
      exact p4
    have el5 := s5 _ _ (s4 _ _ (smm _ _ el))
    refine s_app el5 (ev_varV (i := 3) rfl) (P := oI K (placeD z2)) (ev_varI (i := 4) rfl p5) (by rw [il.length, List.length_map, List.length_map, List.length_take]; omega) fun u3 H6 s6 p6 => ?_
    have k6 : TupKeep H6 (upd H6 lf (.lst (xs ++ [u3]))) := tk_upd (s6 _ _ el5) trivial
    refine ⟨_, _, rfl, same_mut ((((sH.trans smm).trans s4).trans s5).trans s6) (nf), (tk.trans (tk_same (((smm.trans s4).trans s5).trans s6))).trans k6, upd_same, ?_⟩
    rw [List.take_add_one, hz, List.map_append, List.map_append]
    exact ((il.same (((smm.trans s4).trans s5).trans s6)).keep k6).snoc (Im.keep k6 p6)
  · rintro σ' H' ⟨x4, xs, rfl, sH, tk, el, il⟩
    rw [List.length_map, List.take_length] at il
    exact s_ret (ev_tup3 (ev_ixT (i := 0) (w0 rfl (tk_same sH)) ev_int rfl) (ev_tupleL (ev_varL (i := 3) rfl el il)) (ev_ixT (i := 2) (w0 rfl (tk_same sH)) ev_int rfl)) fun v H3 s3 p3 => q v H3 (sH.trans s3) p3
theorem ev__law_greater {σ : L2.St} {H : Hp} {ta tb tc : TE} {W : Web} {x : Str} (wh : Bool) {i : Int} (hi : i = if wh = true then 1 else 0) (h : Ev ta σ H (oI K (webD W))) (k : Ev tb σ H (oI K (.str x))) (l : Ev tc σ H (oI K (.int i))) (hl : W.places.length ≤ 1000) :
    Ev (tCall (sp__law_greater K) [] E0 (tCons ta (tCons tb (tCons tc tNil)))) σ H (oI K (webD (greater W wh x))) := by
  subst hi
  exact ev_call (W, x, wh) (eva_cons h (eva_cons k (eva_cons l eva_nil))) hl
end
end Cut
end
section
namespace Cut
open PySem PySem.Spec PyProof.Rows L2
local macro_rules | `(tactic| walk_at "nk") => `(tactic| first | dsimp only [cxOf, Cx.nox, Cx.wish, Cx.blk] | skip)
local macro_rules | `(tactic| walk_at "im") => `(tactic| first
  | assumption
  | exact Im.int _ | exact Im.str _ | exact Im.bl _ | exact Im.non
  | (refine Im.same (by assumption) ?_; walk_at "im"))
local macro_rules | `(tactic| walk_at "side") => `(tactic| first | assumption | rfl | omega)
local macro_rules | `(tactic| walk_at "ev") => `(tactic| first
  | (with_reducible exact ev_int) | (with_reducible exact ev_str) | (with_reducible exact ev_bl) | (with_reducible exact ev_non)
  | ((with_reducible apply ev_varI); rfl; walk_at "im")
  | ((with_reducible apply ev_ixT); walk_at "ev"; walk_at "ev"; walk_at "side")
  | ((with_reducible apply ev_add); walk_at "ev"; walk_at "ev")
  | ((with_reducible apply ev_sub); walk_at "ev"; walk_at "ev")
  | ((with_reducible apply ev_mul); walk_at "ev"; walk_at "ev"; walk_at "side")
  | ((with_reducible apply ev_div); walk_at "ev"; walk_at "ev"; walk_at "side")
  | ((with_reducible apply ev_mod); walk_at "ev"; walk_at "ev"; walk_at "side")
  | ((with_reducible apply ev_eqI); walk_at "ev"; walk_at "ev")
  | ((with_reducible apply ev_neI); walk_at "ev"; walk_at "ev")
  | ((with_reducible apply ev_eqS); walk_at "ev"; walk_at "ev")
  | ((with_reducible apply ev_neS); walk_at "ev"; walk_at "ev")
  | ((with_reducible apply ev_cmp); walk_at "ev"; walk_at "ev")
  | ((with_reducible apply ev_tup1); walk_at "ev")
  | ((with_reducible apply ev_tup2); walk_at "ev"; walk_at "ev")
  | ((with_reducible apply ev_tup3); walk_at "ev"; walk_at "ev"; walk_at "ev")
  | ((with_reducible apply ev_tup4); walk_at "ev"; walk_at "ev"; walk_at "ev"; walk_at "ev")
  | ((with_reducible apply ev_tup5); walk_at "ev"; walk_at "ev"; walk_at "ev"; walk_at "ev"; walk_at "ev")
  | ((with_reducible apply ev_lenT); walk_at "ev")
  | ((with_reducible apply ev_abs); walk_at "ev")
  | ((with_reducible apply ev_tupleL); walk_at "ev")
  | ((with_reducible apply ev_notV); walk_at "ev")
  | assumption)

/-! dicts with pairs for keys -/
/-- a raw pair of texts -/
def oKey (k : List Str) : Ob := ⟨fun v H => ∃ b, v = .ref b ∧ H b = some (.tup ((keyS k).map kV)), fun _ _ _ s ⟨b, e, h⟩ => ⟨b, e, s _ _ h⟩⟩
/-- a list of raw rows -/
def oLr (R : List (Addr × List Str) → Prop) : Ob := ⟨fun v H => ∃ (l : Addr) (rs : List (Addr × List Str)), v = .ref l ∧ H l = some (.lst (rs.map fun r => .ref r.1)) ∧ R rs ∧ ∀ r ∈ rs, H r.1 = some (.tup (r.2.map V.str)), fun _ _ _ s ⟨l, rs, e, h1, h2, h3⟩ => ⟨l, rs, e, s _ _ h1, h2, fun r hr => s _ _ (h3 r hr)⟩⟩
section
variable {K : PySem.W.Frag} {σ : L2.St} {H : Hp} {te ta tb tt td ty tv te0 : TE} {t : TT} {D : Ends} {tz : TS} {tl : TA} {g : TG} {P : Ob}
theorem ev_key2 {x y : Str} (h : Ev ta σ H (oI K (.str x))) (k : Ev tb σ H (oI K (.str y))) : Ev (tTup (tCons ta (tCons tb tNil))) σ H (oKey [x, y]) := fun H1 s Q q =>
  eva_cons h (eva_cons k eva_nil) H1 s _ fun vs H2 s2 p2 => by
    obtain ⟨v1, v2, rfl, p3, p4⟩ := oall2 p2
    rw [Im.str_inv p3, Im.str_inv p4]
    exact ⟨sz_le (n := 2) (by decide), fun a ha => q _ _ (s2.trans (same_new ha)) ⟨a, rfl, upd_same⟩⟩
theorem s_dputT {d : Addr} {kvs : List (List Key × V)} {c : List Str} (hn : kvs.length < 100000) (e : H d = some (.dT kvs)) (hv : Ev tv σ H P) (hd : Ev td σ H (oV (.ref d))) (hy : Ev ty σ H (oKey c))
    (k : ∀ u H1, Same H H1 → P.p u H1 → D.nx σ (upd H1 d (.dT (putK kvs (keyS c) u)))) : sDPut td ty tv D σ H := hv H (Same.refl H) _ fun u H1 s1 p1 => hd H1 s1 _ fun v H2 s2 e2 => hy H2 (s1.trans s2) _ fun y H3 s3 p3 => by
  obtain rfl : v = .ref d := e2
  obtain ⟨b, rfl, hb⟩ := p3
  have s03 := (s1.trans s2).trans s3
  exact ⟨d, _, rfl, DPut.t (k := keyS c) (s03 _ _ e) hb (sz_lt hn), k u H3 s03 (P.mono _ _ _ (s2.trans s3) p1)⟩
theorem q_dputT {d : Addr} {kvs : List (List Key × V)} {c : List Str} (hn : kvs.length < 100000) (e : H d = some (.dT kvs)) (hv : Ev tv σ H P) (hd : Ev td σ H (oV (.ref d))) (hy : Ev ty σ H (oKey c))
    (k : ∀ u H1, Same H H1 → P.p u H1 → tz D σ (upd H1 d (.dT (putK kvs (keyS c) u)))) : tSeq (sDPut td ty tv) tz D σ H := s_dputT (D := { D with nx := tz D }) hn e hv hd hy k
theorem ev_dgetT {d : Addr} {kvs : List (List Key × V)} {c : List Str} {u : V} (hd : Ev td σ H (oV (.ref d))) (hy : Ev ty σ H (oKey c)) (e : H d = some (.dT kvs)) (hv : valV kvs (keyS c) = some u) (hp : P.p u H) : Ev (tDGet td ty) σ H P := fun H1 s Q q =>
  hd H1 s _ fun v H2 s2 e2 => hy H2 (s.trans s2) _ fun y H3 s3 p3 => by
    obtain rfl : v = .ref d := e2
    obtain ⟨b, rfl, hb⟩ := p3
    have s03 := (s.trans s2).trans s3
    refine ⟨d, u, rfl, ?_, q u H3 (s2.trans s3) (P.mono _ _ _ s03 hp)⟩
    rw [← hv]
    exact DGet.t (k := keyS c) (s03 _ _ e) hb
theorem ev_lenDT {d : Addr} {kvs : List (List Key × V)} (hd : Ev td σ H (oV (.ref d))) (e : H d = some (.dT kvs)) : Ev (tCB rLenT (tCons td tNil)) σ H (oI K (.int (kvs.length : Nat))) := ev_cb (eva_cons hd eva_nil) fun vs H1 s p Q q => by
  obtain ⟨v, rfl, e1⟩ := oall1 p
  obtain rfl : v = .ref d := e1
  exact ⟨d, kvs, rfl, s _ _ e, q _ H1 (Same.refl H1) (Im.int _)⟩
theorem ev_sortDT {d : Addr} {kvs : List (List Key × V)} {ks : List (List Str)} (hd : Ev td σ H (oV (.ref d))) (e : H d = some (.dT kvs)) (hk : kvs.map (·.1) = ks.map keyS) (hne : ∀ k ∈ ks, k ≠ []) : Ev (tCB rSortD (tCons td tNil)) σ H (oLr fun rs => (rs.map (·.2)).Perm ks) := ev_cb (eva_cons hd eva_nil) fun vs H1 s p Q q => by
  obtain ⟨v, rfl, e1⟩ := oall1 p
  obtain rfl : v = .ref d := e1
  exact ⟨d, kvs, ks, rfl, s _ _ e, hk, hne, fun rs p pm ht _ hp => q _ _ (same_new hp) ⟨p, rs, rfl, upd_same, pm, fun r hr => same_new hp _ _ (ht r hr)⟩⟩
/-- a comprehension over raw rows -/
theorem ev_lcR {vs : List Nat} {R : List (Addr × List Str) → Prop} (hs : Ev te0 σ H (oLr R)) (hz : ∀ rs, R rs → rs.length ≤ 40000) (G : List Str → PyData)
    (k : ∀ rs r H1, R rs → r ∈ rs → Same H H1 → H1 r.1 = some (.tup (r.2.map V.str)) → g (.ref r.1) (wipe σ vs) H1 fun σ2 H2 => wipe σ2 vs = wipe σ vs ∧ Same H1 H2 ∧ Ev te σ2 H2 (oI K (G r.2)))
    (gm : ∀ (x : V) (σ : L2.St) (H : Hp) (Q Q' : L2.St → Hp → Prop), (∀ σ' H', Q σ' H' → Q' σ' H') → g x σ H Q → g x σ H Q') : Ev (tLc (iList K te0) g tYes te vs) σ H (oE R fun rs => oL K (rs.map fun r => G r.2)) := fun H0 s0 Q q =>
  hs H0 s0 _ fun v H1 s1 p => by
    obtain ⟨l, rs, rfl, h1, hR, h2⟩ := p
    have hn : rs.length < 100000 := by have := hz rs hR; omega
    refine ⟨l, rfl, ⟨_, SqL.of h1⟩, fun Dl hD => ?_⟩
    have w : Walk (Itl K l) rs.length (fun H3 => TupKeep H1 H3 ∧ H3 l = some (.lst (rs.map fun r => V.ref r.1))) (fun i H x H' => Same H H' ∧ ∃ r, rs[i]? = some r ∧ x = V.ref r.1) := by
      have : Walk (Itl K l) (rs.map fun r => V.ref r.1).length (fun H3 => TupKeep H1 H3 ∧ H3 l = some (.lst (rs.map fun r => V.ref r.1))) (fun i H x H' => Same H H' ∧ ∃ r, rs[i]? = some r ∧ x = V.ref r.1) := (walk_list (K := K) (a := l) (xs := rs.map fun r => V.ref r.1)).mono (fun H3 k => SqL.of k.2) fun i H x H' _ k ⟨e, y⟩ => by
        subst e
        rw [List.getElem?_map] at y
        cases hr : rs[i]? with
        | none => rw [hr] at y; cases y
        | some r =>
          rw [hr] at y
          exact ⟨Same.refl _, r, rfl, (Option.some.inj y).symm⟩
      rw [List.length_map] at this
      exact this
    refine lc_it w (fun i H' => Same H1 H' ∧ ∃ xs, H' Dl = some (.lst xs) ∧ ImAll K H' xs ((rs.take i).map fun r => G r.2)) ⟨same_new hD, [], upd_same, .nil⟩ (fun i H' _ p => ⟨tk_same p.1, p.1 _ _ h1⟩) (fun i x H2 H3 hl p y => ?_) fun H' p => ?_
    · obtain ⟨p1, xs, p2, p3⟩ := p
      obtain ⟨y1, r, hr, rfl⟩ := y
      have hm := List.mem_of_getElem? hr
      refine gm _ _ _ _ _ (fun σ4 H4 z => ?_) (k rs r H3 hR hm ((s0.trans s1).trans (p1.trans y1)) ((p1.trans y1) _ _ (h2 r hm)))
      obtain ⟨z1, z3, z4⟩ := z
      refine ⟨z1, ?_⟩
      show te σ4 H4 fun y H6 => ∃ acc, H6 Dl = some (.lst acc) ∧ acc.length < sizeLine ∧ _
      refine z4 H4 (Same.refl H4) _ fun y H6 s6 hy => ⟨xs, s6 _ _ (z3 _ _ (y1 _ _ p2)), ?_, ?_, ?_⟩
      · rw [p3.length, List.length_map, List.length_take]
        exact sz_lt (by omega)
      · exact same_mut (((p1.trans y1).trans z3).trans s6) hD
      · refine ⟨_, upd_same, ?_⟩
        rw [List.take_add_one, hr, List.map_append]
        have k6 : TupKeep H6 (upd H6 Dl (.lst (xs ++ [y]))) := tk_upd (s6 _ _ (z3 _ _ (y1 _ _ p2))) trivial
        exact ((p3.same ((y1.trans z3).trans s6)).keep k6).snoc (Im.keep k6 hy)
    · obtain ⟨p1, xs, p2, p3⟩ := p
      rw [List.take_length] at p3
      exact q _ H' (s1.trans p1) ⟨rs, hR, Dl, xs, rfl, p2, p3⟩
theorem ev_sliceLE {β : Type} {R : β → Prop} {ds : β → List PyData} {tl th : TO} {lo hi : Option Int} (h : Ev te σ H (oE R fun x => oL K (ds x))) (hl : EvO tl σ H lo) (hh : EvO th σ H hi) : Ev (tSl (rSlL K) te tl th) σ H (oE R fun x => oL K (cutD (ds x) lo hi)) := fun H1 s Q q =>
  h H1 s _ fun v H2 s2 p2 => hl H2 (s.trans s2) _ fun H3 s3 => hh H3 ((s.trans s2).trans s3) _ fun H4 s4 => by
    obtain ⟨x, hx, a, xs, rfl, h1, h2⟩ := p2
    refine ⟨a, xs, rfl, SqL.of (s4 _ _ (s3 _ _ h1)), fun p hp => q _ _ (((s2.trans s3).trans s4).trans (same_new hp)) ?_⟩
    exact ⟨x, hx, p, _, rfl, upd_same, im_cut (h2.same ((s3.trans s4).trans (same_new hp))) lo hi⟩
theorem ev_tupleLE {β : Type} {R : β → Prop} {ds : β → List PyData} (h : Ev te σ H (oE R fun x => oL K (ds x))) : Ev (tCB (rTupleOf K) (tCons te tNil)) σ H (oE R fun x => oI K (.tuple (ds x))) := ev_cb (eva_cons h eva_nil) fun vs H1 s p Q q => by
  obtain ⟨v, rfl, x, hx, a, xs, rfl, h1, h2⟩ := oall1 p
  exact ⟨a, xs, rfl, .inl ⟨SqL.of h1, fun l hl => q _ _ (same_new hl) ⟨x, hx, Im.tup (SqT.of upd_same) (h2.same (same_new hl))⟩⟩⟩
/-- a call whose arguments are known by what they keep -/
theorem ev_callB {α : Type} {Ps : α → List Ob} {pre : α → Prop} {R : α → Ob} {Ps0 : List Ob} {ta : TA} (h : EvA ta σ H Ps0) (k : ∀ vs H1, Same H H1 → OAll Ps0 vs H1 → ∃ a, pre a ∧ OAll (Ps a) vs H1 ∧ ∀ v H2, Same H1 H2 → (R a).p v H2 → P.p v H2) : Ev (tCall (spD Ps pre R) [] E0 ta) σ H P := fun H1 s Q q =>
  h H1 s _ fun vs H2 s2 p2 => by
    obtain ⟨a, h1, h2, h3⟩ := k vs H2 (s.trans s2) p2
    exact ⟨a, h1, by rw [List.append_nil]; exact h2, fun v H3 s3 p3 => q v H3 (s2.trans s3) (h3 v H3 s3 p3)⟩
end
/-! ties drawn -/
def kvT (t : Tie) : List Key × V := (keyS [t.x, t.y], .int t.s)
def TieR (ns : List Str) (t : Tie) : Prop := t.x ∈ ns ∧ t.y ∈ ns ∧ 1 ≤ t.s ∧ t.s ≤ 1000
def KvOk (ns : List Str) (kvs : List (List Key × V)) : Prop := ∀ kv ∈ kvs, ∃ t, TieR ns t ∧ kv = kvT t
theorem kv_put {ns : List Str} {kvs : List (List Key × V)} (h : KvOk ns kvs) {t : Tie} (ht : TieR ns t) : KvOk ns (putK kvs (keyS [t.x, t.y]) (.int t.s)) := fun kv hm => by
  unfold putK at hm
  split at hm
  · obtain ⟨p, hp, rfl⟩ := List.mem_map.mp hm
    split
    · next e =>
      refine ⟨t, ht, ?_⟩
      rw [e]
      rfl
    · exact h p hp
  · rcases List.mem_append.mp hm with z | z
    · exact h kv z
    · exact ⟨t, ht, List.mem_singleton.mp z⟩
theorem kv_list {ns : List Str} : ∀ {kvs : List (List Key × V)}, KvOk ns kvs → ∃ ts : List Tie, kvs = ts.map kvT ∧ ∀ t ∈ ts, TieR ns t
  | [], _ => ⟨[], rfl, fun t h => absurd h (by simp)⟩
  | p :: r, h => by
    obtain ⟨t, h1, rfl⟩ := h p List.mem_cons_self
    obtain ⟨ts, rfl, h2⟩ := kv_list fun kv hk => h kv (List.mem_cons_of_mem _ hk)
    refine ⟨t :: ts, rfl, fun u hu => ?_⟩
    rcases List.mem_cons.mp hu with rfl | hu
    · exact h1
    · exact h2 u hu
def intOf : Option V → Int
  | some (.int s) => s
  | _ => 0
theorem kv_val {ns : List Str} {ts : List Tie} (h : ∀ t ∈ ts, TieR ns t) {t : Tie} (ht : t ∈ ts) : ∃ s : Int, valV (ts.map kvT) (keyS [t.x, t.y]) = some (.int s) ∧ 1 ≤ s ∧ s ≤ 1000 := by
  have h1 : (valV (ts.map kvT) (keyS [t.x, t.y])).isSome = true := by
    rw [← valV_any, List.any_eq_true]
    exact ⟨kvT t, List.mem_map.mpr ⟨t, ht, rfl⟩, decide_eq_true rfl⟩
  unfold valV at h1 ⊢
  cases e : (ts.map kvT).find? fun kv => decide (kv.1 = keyS [t.x, t.y]) with
  | none => rw [e] at h1; cases h1
  | some p =>
    obtain ⟨u, hu, rfl⟩ := List.mem_map.mp (List.mem_of_find?_eq_some e)
    exact ⟨u.s, rfl, (h u hu).2.2⟩
theorem cut16 (ds : List PyData) : cutD ds none (some 16) = ds.take 16 := by
  unfold cutD
  have e : HT.sIx ds.length ds.length (some 16) = min 16 ds.length := HT.sIx_nat _ _ 16
  rw [e, HT.sIx_none, List.drop_zero, Nat.sub_zero, List.take_eq_take_min]
  rw [List.take_eq_take_min (i := 16)]
  congr 1
  omega
structure TiA where
  ns : List Str
  xs : List Int
  frm : Nat
  many : Nat
  wide : Nat
structure TiesR (ns : List Str) (ts : List Tie) : Prop where
  len : ts.length ≤ 16
  ok : ∀ t ∈ ts, TieR ns t
section
variable {P : Program} {w : World} {K : PySem.W.Frag} {mg : Str → Option Value} {base : Heap}
def sp__law_ties (K : PySem.W.Frag) : Sp := spD (α := TiA) (fun a => [oL K (a.ns.map .str), oS K a.xs, oI K (.int (a.frm : Nat)), oI K (.int (a.many : Nat)), oI K (.int (a.wide : Nat))]) (fun a => (1 ≤ a.ns.length ∧ a.ns.length ≤ 8) ∧ a.frm ≤ 100 ∧ a.many ≤ 100 ∧ a.wide ≤ 3) fun a => oE (TiesR a.ns) fun ts => oI K (.tuple (ts.map tieD))
theorem at__law_ties (T : Tx K mg) : At P w K mg base 2 "_law_ties" ["_law_names_here", "_law_script", "_law_at", "_law_many", "_law_wide"] (sp__law_ties K) := by
  refine at_of T.d__law_ties sc__law_ties (fun _ => rfl) fun f cdv A outer s H vs Q E a hr hp ha q => ?_
  refine ⟨_, (pss_cons (ps_set (i := 5) sc__law_ties.nd rfl (Or.inr rfl) pe_dnewT)
 (pss_cons (ps_for PassesOwn.never rfl (pi_range1 (by rfl) T.m_range (pa_cons (pv 3) pa_nil)) (pg_name (i := 6) sc__law_ties.nd rfl (Or.inl rfl)) (pss_cons (ps_set (i := 7) sc__law_ties.nd rfl (Or.inl rfl) (pe_at (at__law_numbers T) (hr.mono (by decide)) (by rfl) (pa_cons (pe_at (at__law_cell T) (hr.mono (by decide)) (by rfl) (pa_cons (pv 1) (pa_cons (pe_op op_add (pv 2) (pv 6)) pa_nil))) (pa_cons pe_int pa_nil))))
 (pss_cons (ps_set (i := 8) sc__law_ties.nd rfl (Or.inl rfl) (pe_op op_mod (pe_ix (r := rIxL K) ix_list (pv 7) pe_int (fun _ _ => rfl)) (pe_callB (r := rLenS K) cr_lenS (by rfl) T.m_len (by decide +kernel) (pa_cons (pv 0) pa_nil))))
 (pss_cons (ps_set (i := 9) sc__law_ties.nd rfl (Or.inl rfl) (pe_op op_mod (pe_op op_add (pe_op op_add (pv 8) pe_int) (pe_op op_mod (pe_ix (r := rIxL K) ix_list (pv 7) pe_int (fun _ _ => rfl)) (pe_callB (cr_max2 rfl) (by rfl) T.m_max (by decide +kernel) (pa_cons pe_int (pa_cons (pe_op op_sub (pe_callB (r := rLenS K) cr_lenS (by rfl) T.m_len (by decide +kernel) (pa_cons (pv 0) pa_nil)) pe_int) pa_nil))))) (pe_callB (r := rLenS K) cr_lenS (by rfl) T.m_len (by decide +kernel) (pa_cons (pv 0) pa_nil))))
 (pss_cons (ps_set (i := 10) sc__law_ties.nd rfl (Or.inl rfl) (pe_ix (r := rIxL K) ix_list (pe_lst (pa_cons (pe_op op_add pe_int (pe_op op_mod (pe_ix (r := rIxL K) ix_list (pv 7) pe_int (fun _ _ => rfl)) pe_int)) (pa_cons (pe_op op_add pe_int (pe_op op_mod (pe_ix (r := rIxL K) ix_list (pv 7) pe_int (fun _ _ => rfl)) pe_int)) (pa_cons (pe_op op_add pe_int (pe_op op_mod (pe_ix (r := rIxL K) ix_list (pv 7) pe_int (fun _ _ => rfl)) pe_int)) (pa_cons (pe_op op_add pe_int (pe_op op_mod (pe_ix (r := rIxL K) ix_list (pv 7) pe_int (fun _ _ => rfl)) pe_int)) pa_nil))))) (pv 4) (fun _ _ => rfl)))
 (pss_one (ps_if (pt_cmpR op_ne (pv 8) (pv 9) (nomark _)) (pss_cons (ps_dput (hu_of hr) (pv 5) (pe_tup (pa_cons (pe_ix (r := rIxL K) ix_list (pv 0) (pv 8) (fun _ _ => rfl)) (pa_cons (pe_ix (r := rIxL K) ix_list (pv 0) (pv 9) (fun _ _ => rfl)) pa_nil))) (pv 10) rfl)
 (pss_one (ps_if (PW.pt (pw_and (pt_cmpR op_eq (pe_op op_mod (pe_ix (r := rIxL K) ix_list (pv 7) pe_int (fun _ _ => rfl)) pe_int) pe_int (nomark _)) (pw_and1 (pt_cmpR op_lt (pe_callB call_len_dT (by rfl) T.m_len (by decide +kernel) (pa_cons (pv 5) pa_nil)) pe_int (nomark _))))) (pss_one (ps_dput (hu_of hr) (pv 5) (pe_tup (pa_cons (pe_ix (r := rIxL K) ix_list (pv 0) (pv 9) (fun _ _ => rfl)) (pa_cons (pe_ix (r := rIxL K) ix_list (pv 0) (pv 8) (fun _ _ => rfl)) pa_nil))) (pe_op op_add pe_int (pe_op op_mod (pe_ix (r := rIxL K) ix_list (pv 7) pe_int (fun _ _ => rfl)) pe_int)) rfl)) pss_nil))) pss_nil)))))))
 (pss_one (ps_ret (pe_callTy (r := rTupleOf K) cr_tupleOf (by rfl) T.m_tuple (by decide +kernel) (pa_cons (pe_slice (r := rSlL K) sl_list (pe_lc rfl sc__law_ties.nd (show PI _ _ _ (iList K _) from pi_list (pe_callB (cr_sortD rfl (units65 hr)) (by rfl) T.m_sorted (by decide +kernel) (pa_cons (pv 5) pa_nil))) (blkOk_by (N := N__law_ties) (sc := defScope s__law_ties) (own := [("_law_pair", 11)]) (by decide +kernel)) (fun _ _ _ _ _ => (pg_name (i := 11) sc__law_ties.nd rfl (Or.inl rfl))) (fun _ _ _ _ _ => pts_nil) (fun _ _ _ _ _ => (pe_op (r := rCatA K) op_catA (pv 11) (pe_tup (pa_cons (pe_dget (hu_of hr) (pv 5) (pv 11) (fun _ _ => rfl)) pa_nil))))) po_none (po_some pe_int)) pa_nil)))))), ?_⟩
  walk_at "nk"
  obtain ⟨v1, v2, v3, v4, v5, rfl, h1, h2, h3, h4, h5⟩ := oall5 ha
  obtain ⟨ns, xs, frm, many, wide⟩ := a
  have hn : 1 ≤ ns.length ∧ ns.length ≤ 8 := hp.1
  have hf : frm ≤ 100 := hp.2.1
  have hmn : many ≤ 100 := hp.2.2.1
  have hwd : wide ≤ 3 := hp.2.2.2
  have h1 : LsAt K H v1 (ns.map .str) := h1
  have h2 : (oS K xs).p v2 H := h2
  obtain rfl : v3 = .int (frm : Nat) := Im.int_inv h3
  obtain rfl : v4 = .int (many : Nat) := Im.int_inv h4
  obtain rfl : v5 = .int (wide : Nat) := Im.int_inv h5
  intro d hd
  have s1 : Same H (upd H d (.dT [])) := same_new hd
  refine q_for (evi_rng1 (K := K) (n := (many : Nat)) (ev_varI (i := 3) rfl (Im.int _)) ⟨by omega, by omega⟩) fun H2 s2 => ?_
  let Pv : Nat → L2.St → Hp → Prop := fun i σ' H' => ∃ x6 x7 x8 x9 x10 x11 kvs, σ' = [some v1, some v2, some (.int (frm : Nat)), some (.int (many : Nat)), some (.int (wide : Nat)), some (.ref d), x6, x7, x8, x9, x10, x11] ∧ Same H H' ∧ TupKeep H2 H' ∧ H' d = some (.dT kvs) ∧ kvs.length ≤ 2 * i ∧ KvOk ns kvs
  refine ⟨Pv, ⟨none, none, none, none, none, none, [], rfl, s1.trans s2, TupKeep.refl _, s2 _ _ upd_same, by simp, fun kv h => absurd h (by simp)⟩, fun i σ' H' ⟨_, _, _, _, _, _, _, _, _, k, _⟩ => k, ?_, ?_⟩
  · rintro i dd y σ' H' H'' hdd ⟨x6, x7, x8, x9, x10, x11, kvs, rfl, sH, tk, ed, ln, kv⟩ smm hy
    obtain ⟨i', hi', rfl, him⟩ := get_map hdd
    obtain rfl : i' = i := by
      obtain ⟨_, e⟩ := List.getElem?_eq_some_iff.mp hi'
      rw [List.getElem_range] at e
      exact e.symm
    have hib := List.mem_range.mp him
    obtain rfl := Im.int_inv hy
    have sH2 := sH.trans smm
    show tSeq _ _ _ _ _
    refine q_set (ev__law_numbers (K := K) (m := 5) (ev__law_cell (ns := xs) (k := frm + i') (ev_varSc (i := 1) rfl h2 sH2) (ev_isD (ev_add (ev_varI (i := 2) rfl (Im.int _)) (ev_varI (i := 6) rfl (Im.int _))) rfl) (by omega)) ev_int (by decide)) fun u H4 s4 p4 => ?_
    obtain ⟨nu, nr, p4⟩ := p4
    have p4 : LsAt K H4 u (intsD nu) := p4
    obtain ⟨x0, g0, b0, c0⟩ := nr.get 0 (by decide)
    obtain ⟨x1, g1, b1, c1⟩ := nr.get 1 (by decide)
    obtain ⟨x2, g2, b2, c2⟩ := nr.get 2 (by decide)
    obtain ⟨x3, g3, b3, c3⟩ := nr.get 3 (by decide)
    obtain ⟨x4, g4, b4, c4⟩ := nr.get 4 (by decide)
    have X : ∀ {σ : L2.St} {H9 : Hp} (k : Nat) {kk n : Int}, kk = (k : Int) → nu[k]? = some n → σ[7]? = some (some u) → Same H4 H9 → Ev (tOp (rIxL K) (tVar 7) (tC (.int kk))) σ H9 (oI K (.int n)) := fun {σ H9} k {kk n} hk g e s => ev_num k hk (ev_varLs e (p4.same s)) g
    have NS : ∀ {σ : L2.St} {H9 : Hp}, σ[0]? = some (some v1) → Same H H9 → Ev (tVar 0) σ H9 (oL K (ns.map .str)) := fun e s => ev_varLs e (h1.same s)
    have LN : ∀ {σ : L2.St} {H9 : Hp}, σ[0]? = some (some v1) → Same H H9 → Ev (tCB (rLenS K) (tCons (tVar 0) tNil)) σ H9 (oI K (.int (ns.length : Nat))) := fun e s => ev_isD (ev_lenL (NS e s)) (by rw [List.length_map])
    have s04 := sH2.trans s4
    refine q_set (ev_mod (K := K) (X 0 rfl g0 rfl (Same.refl _)) (LN rfl s04) (by omega)) fun u5 H5 s5 p5 => ?_
    obtain rfl := Im.int_inv p5
    have s05 := s04.trans s5
    have o1 := mod_bd x0 (j := (ns.length : Nat)) (by omega)
    generalize x0 % ((ns.length : Nat) : Int) = one at o1
    refine q_set (ev_mod (K := K) (ev_add (ev_add (ev_varI (i := 8) rfl (Im.int one)) ev_int) (ev_mod (X 1 rfl g1 rfl s5) (ev_max2 ev_int (ev_sub (LN rfl s05) ev_int)) (by omega))) (LN rfl s05) (by omega)) fun u6 H6 s6 p6 => ?_
    obtain rfl := Im.int_inv p6
    have o2 := mod_bd (one + 1 + x1 % max 1 (((ns.length : Nat) : Int) - 1)) (j := (ns.length : Nat)) (by omega)
    generalize (one + 1 + x1 % max 1 (((ns.length : Nat) : Int) - 1)) % ((ns.length : Nat) : Int) = other at o2
    have s06 := s05.trans s6
    have s56 := s5.trans s6
    obtain ⟨sz, gz, z1, z2⟩ := pick_get (l := [1 + x2 % 4, 1 + x2 % 30, 1 + x2 % 999, 1 + x2 % 999]) (w := wide) (a := 1) (b := 1000) (by simp; omega) (by
      intro x hx
      simp only [List.mem_cons, List.not_mem_nil, or_false] at hx
      rcases hx with rfl | rfl | rfl | rfl <;> omega)
    have E1 : ∀ {σ : L2.St} {m : Int}, 0 < m → σ[7]? = some (some u) → Ev (tOp (rI0 fun i j => .int (i + j)) (tC (.int 1)) (tOp (rI (fun _ j => 0 < j) fun i j => .int (i % j)) (tOp (rIxL K) (tVar 7) (tC (.int 2))) (tC (.int m)))) σ H6 (oI K (.int (1 + x2 % m))) := fun hm e => ev_add ev_int (ev_mod (X 2 rfl g2 e s56) ev_int hm)
    refine q_set (ev_ixL (K := K) (ds := [.int (1 + x2 % 4), .int (1 + x2 % 30), .int (1 + x2 % 999), .int (1 + x2 % 999)]) (d := .int sz) (Ev.ls (ev_lstN (eva_cons (E1 (by decide) rfl) (eva_cons (E1 (by decide) rfl) (eva_cons (E1 (by decide) rfl) (eva_cons (E1 (by decide) rfl) eva_nil)))) (by simp))) (ev_varI (i := 4) rfl (Im.int _)) (atI_nat (by
      have : ([1 + x2 % 4, 1 + x2 % 30, 1 + x2 % 999, 1 + x2 % 999].map PyData.int)[wide]? = some (.int sz) := by rw [List.getElem?_map, gz]; rfl
      exact this))) fun u7 H7 s7 p7 => ?_
    obtain rfl := Im.int_inv p7
    have s07 := s06.trans s7
    have s57 := s56.trans s7
    have smm7 := ((smm.trans s4).trans s57)
    have ed7 := smm7 _ _ ed
    have tk7 := tk.trans (tk_same smm7)
    obtain ⟨n1, rfl⟩ := Int.eq_ofNat_of_zero_le o1.1
    obtain ⟨n2, rfl⟩ := Int.eq_ofNat_of_zero_le o2.1
    have l1 : n1 < ns.length := by omega
    have l2 : n2 < ns.length := by omega
    have NM : ∀ {σ : L2.St} {H9 : Hp} {j n : Nat} (hn : n < ns.length), σ[0]? = some (some v1) → σ[j]? = some (some (.int (n : Nat))) → Same H H9 → Ev (tOp (rIxL K) (tVar 0) (tVar j)) σ H9 (oI K (.str ns[n])) := fun {σ H9 j n} hn e e' s => ev_ixL (K := K) (d := .str ns[n]) (NS e s) (ev_varI e' (Im.int _)) (atI_nat (by rw [List.getElem?_map, List.getElem?_eq_getElem hn]; rfl))
    refine s_when (evb_test (ev_neI (K := K) (ev_varI (i := 8) rfl (Im.int _)) (ev_varI (i := 9) rfl (Im.int _)))) (fun hb H8 s8 => ?_) fun hb H8 s8 => ?_
    · have s08 := s07.trans s8
      refine q_dputT (c := [ns[n1], ns[n2]]) (by omega) (s8 _ _ ed7) (ev_varI (K := K) (i := 10) rfl (Im.int sz)) (ev_varV (i := 5) rfl) (ev_key2 (K := K) (NM (j := 8) l1 rfl rfl s08) (NM (j := 9) l2 rfl rfl s08)) fun u8 H9 s9 p8 => ?_
      obtain rfl := Im.int_inv p8
      have kv9 : KvOk ns (putK kvs (keyS [ns[n1], ns[n2]]) (.int sz)) := kv_put kv (t := ⟨ns[n1], ns[n2], sz⟩) ⟨List.getElem_mem l1, List.getElem_mem l2, z1, z2⟩
      have ln9 := length_putK kvs (keyS [ns[n1], ns[n2]]) (.int sz)
      generalize putK kvs (keyS [ns[n1], ns[n2]]) (.int sz) = kvs9 at kv9 ln9
      have sA : Same H (upd H9 d (.dT kvs9)) := same_mut (s08.trans s9) hd
      have tA : TupKeep H2 (upd H9 d (.dT kvs9)) := (tk7.trans (tk_same (s8.trans s9))).trans (tk_upd (s9 _ _ (s8 _ _ ed7)) trivial)
      have nd : u = .ref d → False := fun z => by
        obtain ⟨a, xs, e, h, _⟩ := p4
        rw [z] at e
        cases e
        rw [s57 _ _ h] at ed7
        cases ed7
      have p4A : LsAt K (upd H9 d (.dT kvs9)) u (intsD nu) := by
        obtain ⟨a, ys, rfl, e, ii⟩ := p4
        have s49 := (s57.trans s8).trans s9
        refine ⟨a, ys, rfl, ?_, ?_⟩
        · rw [upd_ne fun z => nd (by rw [z])]
          exact s49 _ _ e
        · exact (ii.same s49).keep (tk_upd (s9 _ _ (s8 _ _ ed7)) trivial)
      refine s_when (evb_and (evb_test (ev_eqI (K := K) (ev_mod (ev_num 3 rfl (ev_varLs (i := 7) rfl p4A) g3) ev_int (by decide)) ev_int)) fun _ => evb_test (ev_cmp (K := K) (ev_lenDT (K := K) (ev_varV (i := 5) rfl) upd_same) ev_int)) (fun hb2 HB sB => ?_) fun hb2 HB sB => ?_
      · have s0B := sA.trans sB
        refine s_dputT (c := [ns[n2], ns[n1]]) (by omega) (sB _ _ upd_same) (P := oI K (.int (1 + x4 % 9))) (ev_add ev_int (ev_mod (ev_num 4 rfl (ev_varLs (i := 7) rfl (p4A.same sB)) g4) ev_int (by decide))) (ev_varV (i := 5) rfl) (ev_key2 (K := K) (NM (j := 9) l2 rfl rfl s0B) (NM (j := 8) l1 rfl rfl s0B)) fun u9 HC sC pC => ?_
        obtain rfl := Im.int_inv pC
        have kvC : KvOk ns (putK kvs9 (keyS [ns[n2], ns[n1]]) (.int (1 + x4 % 9))) := kv_put kv9 (t := ⟨ns[n2], ns[n1], 1 + x4 % 9⟩) ⟨List.getElem_mem l2, List.getElem_mem l1, by show 1 ≤ 1 + x4 % 9; omega, by show 1 + x4 % 9 ≤ 1000; omega⟩
        have lnC := length_putK kvs9 (keyS [ns[n2], ns[n1]]) (.int (1 + x4 % 9))
        exact ⟨_, _, _, _, _, _, _, rfl, same_mut (s0B.trans sC) hd, (tA.trans (tk_same (sB.trans sC))).trans (tk_upd (sC _ _ (sB _ _ upd_same)) trivial), upd_same, by omega, kvC⟩
      · exact ⟨_, _, _, _, _, _, _, rfl, sA.trans sB, tA.trans (tk_same sB), sB _ _ upd_same, by omega, kv9⟩
    · exact ⟨_, _, _, _, _, _, _, rfl, s07.trans s8, tk7.trans (tk_same s8), s8 _ _ ed7, by omega, kv⟩
  · rintro σ' H' ⟨x6, x7, x8, x9, x10, x11, kvs, rfl, sH, tk, ed, ln, kv⟩
    rw [List.length_map, List.length_range] at ln
    obtain ⟨ts, rfl, hts⟩ := kv_list kv
    rw [List.length_map] at ln
    let ks : List (List Str) := ts.map fun t => [t.x, t.y]
    have hks : (ts.map kvT).map (·.1) = ks.map keyS := by
      rw [List.map_map, List.map_map]
      rfl
    let G : List Str → PyData := fun c => .tuple (c.map .str ++ [.int (intOf (valV (ts.map kvT) (keyS c)))])
    have inK : ∀ {rs : List (Addr × List Str)} {r : Addr × List Str}, (rs.map (·.2)).Perm ks → r ∈ rs → ∃ t ∈ ts, r.2 = [t.x, t.y] := fun {rs r} pm hr => by
      obtain ⟨t, ht, e⟩ := List.mem_map.mp (pm.mem_iff.mp (List.mem_map.mpr ⟨r, hr, rfl⟩))
      exact ⟨t, ht, e.symm⟩
    have rl : ∀ {rs : List (Addr × List Str)}, (rs.map (·.2)).Perm ks → rs.length = ts.length := fun {rs} pm => by
      have := pm.length_eq
      rw [List.length_map, List.length_map] at this
      exact this
    refine s_ret (ev_tupleLE (ev_sliceLE (hi := some 16) (lo := none) (ev_lcR (K := K) (ev_sortDT (ev_varV (i := 5) rfl) ed hks fun k hk => ?_) (fun rs pm => by rw [rl pm]; have := ln; omega) G (fun rs r H3 pm hr s3 hb => ?_) gm_name) evo_none (evo_some (K := K) (ev_int (K := K))))) fun v H3 s3 p3 => ?_
    · obtain ⟨t, _, rfl⟩ := List.mem_map.mp hk
      simp
    · obtain ⟨t, ht, e⟩ := inK pm hr
      obtain ⟨sz, hv, _, _⟩ := kv_val hts ht
      refine ⟨rfl, Same.refl _, ?_⟩
      have key : ∀ {σ : L2.St}, σ[11]? = some (some (.ref r.1)) → Ev (tVar 11) σ H3 (oKey r.2) := fun e => ev_var e ⟨r.1, rfl, by rw [keyS_kV]; exact hb⟩
      have row : ∀ {σ : L2.St}, σ[11]? = some (some (.ref r.1)) → Ev (tVar 11) σ H3 (oI K (.tuple (r.2.map .str))) := fun e => ev_varI e (Im.tup (SqT.of hb) (ImAll.of_strs _))
      refine ev_catT (K := K) (row rfl) (ev_tup1 (ev_dgetT (P := oI K (.int (intOf (valV (ts.map kvT) (keyS r.2))))) (ev_varV (i := 5) rfl) (key rfl) (s3 _ _ ed) (u := .int sz) (by rw [e]; exact hv) ?_)) (by rw [e]; simp)
      rw [e, hv]
      exact Im.int _
    · obtain ⟨rs, pm, p3⟩ := p3
      let toT : Addr × List Str → Tie := fun r => ⟨r.2.head?.getD spring, (r.2.drop 1).head?.getD spring, intOf (valV (ts.map kvT) (keyS r.2))⟩
      have et : rs.map (fun r => G r.2) = (rs.map toT).map tieD := by
        rw [List.map_map]
        refine List.map_congr_left fun r hr => ?_
        obtain ⟨t, ht, e⟩ := inK pm hr
        show PyData.tuple (r.2.map .str ++ [.int (intOf (valV (ts.map kvT) (keyS r.2)))]) = _
        show _ = tieD (toT r)
        show _ = PyData.tuple [.str (r.2.head?.getD spring), .str ((r.2.drop 1).head?.getD spring), .int (intOf (valV (ts.map kvT) (keyS r.2)))]
        rw [e]
        rfl
      have p3 : Im K H3 v (.tuple (cutD (rs.map fun r => G r.2) none (some 16))) := p3
      rw [et, cut16, ← List.map_take] at p3
      refine q v H3 (sH.trans s3) ⟨(rs.map toT).take 16, ⟨by rw [List.length_take]; omega, fun t ht => ?_⟩, p3⟩
      obtain ⟨r, hr, rfl⟩ := List.mem_map.mp (List.mem_of_mem_take ht)
      obtain ⟨t, ht, e⟩ := inK pm hr
      obtain ⟨sz, hv, z1, z2⟩ := kv_val hts ht
      have et : toT r = ⟨t.x, t.y, sz⟩ := by
        show Tie.mk _ _ _ = _
        rw [e, hv]
        rfl
      rw [et]
      exact ⟨(hts t ht).1, (hts t ht).2.1, z1, z2⟩
theorem ev__law_ties {σ : L2.St} {H : Hp} {ta tb tc td te : TE} (a : TiA) (h1 : Ev ta σ H (oL K (a.ns.map .str))) (h2 : Ev tb σ H (oS K a.xs)) (h3 : Ev tc σ H (oI K (.int (a.frm : Nat)))) (h4 : Ev td σ H (oI K (.int (a.many : Nat)))) (h5 : Ev te σ H (oI K (.int (a.wide : Nat)))) (hn : 1 ≤ a.ns.length ∧ a.ns.length ≤ 8) (hf : a.frm ≤ 100) (hm : a.many ≤ 100) (hw : a.wide ≤ 3) :
    Ev (tCall (sp__law_ties K) [] E0 (tCons ta (tCons tb (tCons tc (tCons td (tCons te tNil)))))) σ H (oE (TiesR a.ns) fun ts => oI K (.tuple (ts.map tieD))) := ev_call a (eva_cons h1 (eva_cons h2 (eva_cons h3 (eva_cons h4 (eva_cons h5 eva_nil))))) ⟨hn, hf, hm, hw⟩
end
end Cut
end
section
namespace Cut
open PySem PySem.Spec PyProof.Rows L2
local macro_rules | `(tactic| walk_at "nk") => `(tactic| first | dsimp only [cxOf, Cx.nox, Cx.wish, Cx.blk] | skip)
local macro_rules | `(tactic| walk_at "im") => `(tactic| first
  | assumption
  | exact Im.int _ | exact Im.str _ | exact Im.bl _ | exact Im.non
  | (refine Im.same (by assumption) ?_; walk_at "im"))
local macro_rules | `(tactic| walk_at "side") => `(tactic| first | assumption | rfl | omega)
local macro_rules | `(tactic| walk_at "ev") => `(tactic| first
  | (with_reducible exact ev_int) | (with_reducible exact ev_str) | (with_reducible exact ev_bl) | (with_reducible exact ev_non)
  | ((with_reducible apply ev_varI); rfl; walk_at "im")
  | ((with_reducible apply ev_ixT); walk_at "ev"; walk_at "ev"; walk_at "side")
  | ((with_reducible apply ev_add); walk_at "ev"; walk_at "ev")
  | ((with_reducible apply ev_sub); walk_at "ev"; walk_at "ev")
  | ((with_reducible apply ev_mul); walk_at "ev"; walk_at "ev"; walk_at "side")
  | ((with_reducible apply ev_div); walk_at "ev"; walk_at "ev"; walk_at "side")
  | ((with_reducible apply ev_mod); walk_at "ev"; walk_at "ev"; walk_at "side")
  | ((with_reducible apply ev_eqI); walk_at "ev"; walk_at "ev")
  | ((with_reducible apply ev_neI); walk_at "ev"; walk_at "ev")
  | ((with_reducible apply ev_eqS); walk_at "ev"; walk_at "ev")
  | ((with_reducible apply ev_neS); walk_at "ev"; walk_at "ev")
  | ((with_reducible apply ev_cmp); walk_at "ev"; walk_at "ev")
  | ((with_reducible apply ev_tup1); walk_at "ev")
  | ((with_reducible apply ev_tup2); walk_at "ev"; walk_at "ev")
  | ((with_reducible apply ev_tup3); walk_at "ev"; walk_at "ev"; walk_at "ev")
  | ((with_reducible apply ev_tup4); walk_at "ev"; walk_at "ev"; walk_at "ev"; walk_at "ev")
  | ((with_reducible apply ev_tup5); walk_at "ev"; walk_at "ev"; walk_at "ev"; walk_at "ev"; walk_at "ev")
  | ((with_reducible apply ev_lenT); walk_at "ev")
  | ((with_reducible apply ev_abs); walk_at "ev")
  | ((with_reducible apply ev_tupleL); walk_at "ev")
  | ((with_reducible apply ev_notV); walk_at "ev")
  | assumption)

/-! webs drawn -/
theorem good_strOk {n : Str} (h : Good n) : PyData.strOk n = true := by
  unfold PyData.strOk
  rw [← Array.all_toList, List.all_eq_true]
  intro c hc
  have := (h.2.2 c hc).2
  exact decide_eq_true (by omega)
theorem good_noS {ns : List Str} (h : ∀ n ∈ ns, Good n) : spring ∉ ns := fun z => absurd ((h _ z).2.2 43 (by decide +kernel)).1 (by decide)
theorem good_noD {ns : List Str} (h : ∀ n ∈ ns, Good n) : drain ∉ ns := fun z => absurd ((h _ z).2.2 45 (by decide +kernel)).1 (by decide)
theorem names_of_rows {top : Int} : ∀ {zs : List Place} {ns : List Str}, zs.length = ns.length → (∀ (j : Nat) z, zs[j]? = some z → ∃ nm, ns[j]? = some nm ∧ PlaceR nm top z) → zs.map (·.n) = ns := fun {zs ns} hl h => by
  refine List.ext_getElem? fun j => ?_
  rw [List.getElem?_map]
  cases e : zs[j]? with
  | none =>
    have := List.getElem?_eq_none_iff.mp e
    rw [List.getElem?_eq_none (by omega)]
    rfl
  | some z =>
    obtain ⟨nm, h1, h2⟩ := h j z e
    rw [h1, ← h2.n]
    rfl
structure WbA where
  xs : List Int
  frm : Nat
  most : Nat
/-- every size by its last digit -/
def liteP (top : Int) (z : Place) : Place := ⟨z.n, z.a % 2, z.b % 2, z.d % 2 * top + z.c % 2, z.d % 2⟩
def liteT (t : Tie) : Tie := ⟨t.x, t.y, 1 + t.s % 2⟩
def lite (W : Web) : Web := ⟨W.top, W.places.map (liteP W.top), W.ties.map liteT⟩
theorem lite_names (W : Web) : (lite W).names = W.names := by
  show (W.places.map (liteP W.top)).map (·.n) = W.places.map (·.n)
  rw [List.map_map]
  rfl
theorem lite_ok {W : Web} (h : WebOk W) : WebOk (lite W) := by
  refine ⟨⟨?_, ?_, ?_, ?_⟩, ?_, ?_, h.tp, ?_, ?_, ?_⟩
  · rw [lite_names]; exact h.nm.ris
  · rw [lite_names]; exact h.nm.noS
  · rw [lite_names]; exact h.nm.noD
  · intro t ht
    obtain ⟨u, hu, rfl⟩ := List.mem_map.mp ht
    rw [lite_names]
    exact h.nm.inX u hu
  · show (W.places.map (liteP W.top)).length ≤ 8
    rw [List.length_map]; exact h.np
  · show (W.ties.map liteT).length ≤ 16
    rw [List.length_map]; exact h.nt
  · intro z hz
    obtain ⟨u, hu, rfl⟩ := List.mem_map.mp hz
    have t := h.tp
    show (0 ≤ u.a % 2 ∧ u.a % 2 ≤ 10000) ∧ (0 ≤ u.b % 2 ∧ u.b % 2 ≤ 10000) ∧ (0 ≤ u.d % 2 ∧ u.d % 2 ≤ 10000) ∧ W.top * (u.d % 2) ≤ u.d % 2 * W.top + u.c % 2 ∧ u.d % 2 * W.top + u.c % 2 ≤ 100000
    have m := mod_bd u.d (j := 2) (by decide)
    have c := mod_bd u.c (j := 2) (by decide)
    have e : W.top * (u.d % 2) = u.d % 2 * W.top := Int.mul_comm _ _
    have b : u.d % 2 * W.top ≤ 1 * 9 := Int.mul_le_mul (by omega) (by omega) (by omega) (by omega)
    rw [e]
    omega
  · intro t ht
    obtain ⟨u, hu, rfl⟩ := List.mem_map.mp ht
    show 1 ≤ 1 + u.s % 2 ∧ 1 + u.s % 2 ≤ 10000
    omega
  · rw [lite_names]; exact h.sk
section
variable {P : Program} {w : World} {K : PySem.W.Frag} {mg : Str → Option Value} {base : Heap}
def sp__law_web (K : PySem.W.Frag) : Sp := spD (α := WbA) (fun a => [oS K a.xs, oI K (.int (a.frm : Nat)), oI K (.int (a.most : Nat))]) (fun a => a.frm ≤ 50 ∧ 1 ≤ a.most ∧ a.most ≤ 8) fun a => oE WebOk fun W => oI K (webD W)
theorem at__law_web (T : Tx K mg) : At P w K mg base 3 "_law_web" ["_law_script", "_law_at", "_law_most"] (sp__law_web K) := by
  refine at_of T.d__law_web sc__law_web (fun _ => rfl) fun f cdv A outer s H vs Q E a hr hp ha q => ?_
  refine ⟨_, (pss_cons (ps_set (i := 3) sc__law_web.nd rfl (Or.inl rfl) (pe_at (at__law_numbers T) (hr.mono (by decide)) (by rfl) (pa_cons (pe_at (at__law_cell T) (hr.mono (by decide)) (by rfl) (pa_cons (pv 0) (pa_cons (pv 1) pa_nil))) (pa_cons pe_int pa_nil))))
 (pss_cons (ps_set (i := 4) sc__law_web.nd rfl (Or.inl rfl) (pe_op op_add pe_int (pe_op op_mod (pe_ix (r := rIxL K) ix_list (pv 3) pe_int (fun _ _ => rfl)) pe_int)))
 (pss_cons (ps_set (i := 5) sc__law_web.nd rfl (Or.inl rfl) (pe_op op_add pe_int (pe_op op_mod (pe_ix (r := rIxL K) ix_list (pv 3) pe_int (fun _ _ => rfl)) (pv 2))))
 (pss_cons (ps_set (i := 6) sc__law_web.nd rfl (Or.inl rfl) (pe_ix (r := rIxL K) ix_list (pe_lst (pa_cons pe_int (pa_cons pe_int (pa_cons pe_int (pa_cons pe_int (pa_cons pe_int pa_nil)))))) (pe_op op_mod (pe_ix (r := rIxL K) ix_list (pv 3) pe_int (fun _ _ => rfl)) pe_int) (fun _ _ => rfl)))
 (pss_cons (ps_set (i := 7) sc__law_web.nd rfl (Or.inl rfl) (pe_at (at__law_names T) (hr.mono (by decide)) (by rfl) (pa_cons (pv 3) (pa_cons (pv 5) pa_nil))))
 (pss_cons (ps_set (i := 8) sc__law_web.nd rfl (Or.inl rfl) (pe_lst pa_nil))
 (pss_cons (ps_for PassesOwn.never rfl (pi_range1 (by rfl) T.m_range (pa_cons (pv 5) pa_nil)) (pg_name (i := 9) sc__law_web.nd rfl (Or.inl rfl)) (pss_one (ps_expr (pe_bm PySem.F.plainAttrs_list PySem.F.slot_list_append PySem.F.type_list_append mt_append (pv 8) (pa_cons (pe_at (at__law_place T) (hr.mono (by decide)) (by rfl) (pa_cons (pe_ix (r := rIxL K) ix_list (pv 7) (pv 9) (fun _ _ => rfl)) (pa_cons (pe_at (at__law_numbers T) (hr.mono (by decide)) (by rfl) (pa_cons (pe_at (at__law_cell T) (hr.mono (by decide)) (by rfl) (pa_cons (pv 0) (pa_cons (pe_op op_add (pe_op op_add (pv 1) pe_int) (pv 9)) pa_nil))) (pa_cons pe_int pa_nil))) (pa_cons (pv 4) (pa_cons (pv 6) pa_nil))))) pa_nil)))))
 (pss_cons (ps_set (i := 10) sc__law_web.nd rfl (Or.inl rfl) (pe_at (at__law_ties T) (hr.mono (by decide)) (by rfl) (pa_cons (pv 7) (pa_cons (pv 0) (pa_cons (pe_op op_add (pe_op op_add (pv 1) pe_int) (pv 5)) (pa_cons (pe_op op_mod (pe_ix (r := rIxL K) ix_list (pv 3) pe_int (fun _ _ => rfl)) (pe_op op_add (pe_op op_mulW pe_int (pv 5)) pe_int)) (pa_cons (pv 6) pa_nil)))))))
 (pss_one (ps_ret (pe_tup (pa_cons (pv 4) (pa_cons (pe_callTy (r := rTupleOf K) cr_tupleOf (by rfl) T.m_tuple (by decide +kernel) (pa_cons (pv 8) pa_nil)) (pa_cons (pv 10) pa_nil)))))))))))))), ?_⟩
  walk_at "nk"
  obtain ⟨v1, v2, v3, rfl, h1, h2, h3⟩ := oall3 ha
  obtain ⟨xs, frm, most⟩ := a
  have hf : frm ≤ 50 := hp.1
  have hm : 1 ≤ most ∧ most ≤ 8 := hp.2
  have h1 : (oS K xs).p v1 H := h1
  obtain rfl : v2 = .int (frm : Nat) := Im.int_inv h2
  obtain rfl : v3 = .int (most : Nat) := Im.int_inv h3
  have SC : ∀ {σ : L2.St} {H9 : Hp}, σ[0]? = some (some v1) → Same H H9 → Ev (tVar 0) σ H9 (oS K xs) := fun e s => ev_varSc e h1 s
  have FR : ∀ {σ : L2.St} {H9 : Hp}, σ[1]? = some (some (.int (frm : Nat))) → Ev (tVar 1) σ H9 (oI K (.int (frm : Nat))) := fun e => ev_varI e (Im.int _)
  refine q_set (ev__law_numbers (K := K) (m := 12) (ev__law_cell (ns := xs) (k := frm) (SC rfl (Same.refl _)) (FR rfl) (by omega)) ev_int (by decide)) fun u H1 s1 p1 => ?_
  obtain ⟨nu, nr, p1⟩ := p1
  have p1 : LsAt K H1 u (intsD nu) := p1
  obtain ⟨x4, g4, b4, c4⟩ := nr.get 4 (by decide)
  obtain ⟨x5, g5, b5, c5⟩ := nr.get 5 (by decide)
  obtain ⟨x6, g6, b6, c6⟩ := nr.get 6 (by decide)
  obtain ⟨x7, g7, b7, c7⟩ := nr.get 7 (by decide)
  have X : ∀ {σ : L2.St} {H9 : Hp} (k : Nat) {kk n : Int}, kk = (k : Int) → nu[k]? = some n → σ[3]? = some (some u) → Same H1 H9 → Ev (tOp (rIxL K) (tVar 3) (tC (.int kk))) σ H9 (oI K (.int n)) := fun {σ H9} k {kk n} hk g e s => ev_num k hk (ev_varLs e (p1.same s)) g
  refine q_set (ev_add (K := K) ev_int (ev_mod (X 4 rfl g4 rfl (Same.refl _)) ev_int (by decide))) fun u2 H2 s2 p2 => ?_
  obtain rfl := Im.int_inv p2
  have t0 := mod_bd x4 (j := 9) (by decide)
  have ht : 1 ≤ 1 + x4 % 9 ∧ 1 + x4 % 9 ≤ 9 := by omega
  generalize 1 + x4 % 9 = top at ht
  refine q_set (ev_add (K := K) ev_int (ev_mod (X 5 rfl g5 rfl s2) (ev_varI (i := 2) rfl (Im.int _)) (by omega))) fun u3 H3 s3 p3 => ?_
  obtain rfl := Im.int_inv p3
  have m0 := mod_bd x5 (j := (most : Nat)) (by omega)
  have hmany : 1 ≤ 1 + x5 % ((most : Nat) : Int) ∧ 1 + x5 % ((most : Nat) : Int) ≤ 8 := by omega
  generalize 1 + x5 % ((most : Nat) : Int) = many' at hmany
  obtain ⟨many, rfl⟩ := Int.eq_ofNat_of_zero_le (a := many') (by omega)
  have s13 := s2.trans s3
  have w5 := mod_bd x6 (j := 5) (by decide)
  obtain ⟨wd, gw, w1, w2⟩ := pick_get (l := [0, 1, 0, 1, 2]) (w := (x6 % 5).toNat) (a := 0) (b := 2) (by simp; omega) (by decide)
  refine q_set (ev_pick (K := K) [0, 1, 0, 1, 2] (x6 % 5).toNat (by omega) (ev_mod (X 6 rfl g6 rfl s13) ev_int (by decide)) gw (by decide)) fun u4 H4 s4 p4 => ?_
  obtain rfl := Im.int_inv p4
  obtain ⟨wide, rfl⟩ := Int.eq_ofNat_of_zero_le w1
  have s14 := s13.trans s4
  refine q_set (ev__law_names (K := K) (ns := nu) (m := many) (ev_varLs (i := 3) rfl (p1.same s14)) (ev_varI (i := 5) rfl (Im.int _)) nr (by omega)) fun u5 H5 s5 p5 => ?_
  obtain ⟨ns, nmr, p5⟩ := p5
  have p5 : LsAt K H5 u5 (ns.map .str) := p5
  have ln := nmr.len
  have s15 := s14.trans s5
  have s05 := s1.trans s15
  have NS : ∀ {σ : L2.St} {H9 : Hp}, σ[7]? = some (some u5) → Same H5 H9 → Ev (tVar 7) σ H9 (oL K (ns.map .str)) := fun e s => ev_varLs e (p5.same s)
  have MN : ∀ {σ : L2.St} {H9 : Hp}, σ[5]? = some (some (.int (many : Nat))) → Ev (tVar 5) σ H9 (oI K (.int (many : Nat))) := fun e => ev_varI e (Im.int _)
  refine q_set (ev_nil (K := K)) fun vf H6 s6 p6 => ?_
  obtain ⟨lf, xf, rfl, nf, ef, if_⟩ := p6
  cases if_
  have nf0 : H lf = none := s05.free nf
  have s06 := s05.trans s6
  refine q_for (evi_rng1 (K := K) (n := (many : Nat)) (MN rfl) ⟨by omega, by omega⟩) fun H7 s7 => ?_
  refine ⟨fun i σ' H' => ∃ x9 xs' zs, σ' = [some v1, some (.int (frm : Nat)), some (.int (most : Nat)), some u, some (.int top), some (.int (many : Nat)), some (.int (wide : Nat)), some u5, some (.ref lf), x9, none] ∧ Same H5 H' ∧ TupKeep H7 H' ∧ H' lf = some (.lst xs') ∧ ImAll K H' xs' (zs.map placeD) ∧ zs.length = i ∧ ∀ (j : Nat) z, zs[j]? = some z → ∃ nm, ns[j]? = some nm ∧ PlaceR nm top z,
    ⟨none, [], [], rfl, s6.trans s7, TupKeep.refl _, s7 _ _ ef, .nil, rfl, fun j z h => by rw [List.getElem?_nil] at h; cases h⟩, fun i σ' H' ⟨_, _, _, _, _, k, _⟩ => k, ?_, ?_⟩
  · rintro i dd y σ' H' H'' hdd ⟨x9, xs', zs, rfl, sH, tk, el, il, lz, hz⟩ smm hy
    obtain ⟨i', hi', rfl, him⟩ := get_map hdd
    obtain rfl : i' = i := by
      obtain ⟨_, e⟩ := List.getElem?_eq_some_iff.mp hi'
      rw [List.getElem_range] at e
      exact e.symm
    have hib := List.mem_range.mp him
    obtain rfl := Im.int_inv hy
    have s5b := sH.trans smm
    have s0b := s05.trans s5b
    have hn : i' < ns.length := by omega
    have e0 := smm _ _ el
    show tDrop _ _ _ _
    refine s_app e0 (ev_varV (i := 8) rfl) (P := oE (PlaceR ns[i'] top) fun z => oI K (placeD z)) (ev_callB (Ps0 := [oI K (.str ns[i']), oE (NumsR 5) fun ns => oL K (intsD ns), oI K (.int top), oI K (.int (wide : Nat))]) (eva_cons (ev_ixL (d := .str ns[i']) (NS rfl s5b) (ev_varI (i := 9) rfl (Im.int _)) (atI_nat (by rw [List.getElem?_map, List.getElem?_eq_getElem hn]; rfl))) (eva_cons (ev__law_numbers (m := 5) (ev__law_cell (ns := xs) (k := frm + 1 + i') (SC rfl s0b) (ev_isD (ev_add (ev_add (FR rfl) ev_int) (ev_varI (i := 9) rfl (Im.int _))) rfl) (by omega)) ev_int (by decide)) (eva_cons (ev_varI (i := 4) rfl (Im.int _)) (eva_cons (ev_varI (i := 6) rfl (Im.int _)) eva_nil)))) fun vs H8 s8 p8 => ?_) (by rw [il.length, List.length_map]; omega) fun v H8 s8 p8 => ?_
    · obtain ⟨w1', w2', w3', w4', rfl, q1, q2, q3, q4⟩ := oall4 p8
      obtain ⟨n5, nr5, q2⟩ := q2
      exact ⟨⟨ns[i'], n5, top, wide⟩, ⟨nr5, ht, by show wide ≤ 3; omega⟩, .cons q1 (.cons q2 (.cons q3 (.cons q4 .nil))), fun v H2 _ p => p⟩
    · obtain ⟨z, hpz, p8⟩ := p8
      have k8 : TupKeep H8 (upd H8 lf (.lst (xs' ++ [v]))) := tk_upd (s8 _ _ e0) trivial
      have sA : Same H5 (upd H8 lf (.lst (xs' ++ [v]))) := same_mut (s5b.trans s8) nf
      refine ⟨_, _, zs ++ [z], rfl, sA, (tk.trans (tk_same (smm.trans s8))).trans k8, upd_same, ?_, by rw [List.length_append, lz]; rfl, fun j z' hj => ?_⟩
      · rw [List.map_append]
        exact ((il.same (smm.trans s8)).keep k8).snoc (Im.keep k8 p8)
      · by_cases hlt : j < zs.length
        · rw [List.getElem?_append_left hlt] at hj
          exact hz j z' hj
        · obtain ⟨hjb, hje⟩ := List.getElem?_eq_some_iff.mp hj
          rw [List.length_append, List.length_singleton] at hjb
          obtain rfl : j = zs.length := by omega
          rw [List.getElem?_concat_length] at hj
          obtain rfl := Option.some.inj hj
          refine ⟨ns[i'], ?_, hpz⟩
          rw [lz]
          exact List.getElem?_eq_getElem hn
  · rintro σ' H' ⟨x9, xs', zs, rfl, sH, tk, el, il, lz, hz⟩
    rw [List.length_map, List.length_range] at lz
    have lz : zs.length = many := by omega
    have s0' := s05.trans sH
    have s1' := s15.trans sH
    have tb := mod_bd x7 (j := 2 * (many : Nat) + 1) (by omega)
    obtain ⟨tm, htm⟩ := Int.eq_ofNat_of_zero_le tb.1
    have tmb : tm ≤ 100 := by omega
    refine q_set (ev__law_ties (K := K) ⟨ns, xs, frm + 1 + many, tm, wide⟩ (NS rfl sH) (SC rfl s0') (ev_isD (ev_add (ev_add (FR rfl) ev_int) (MN rfl)) rfl) (ev_isD (ev_mod (X 7 rfl g7 rfl s1') (ev_add (ev_mul (ev_int (i := 2)) (MN rfl) (cm_of (by omega) (by omega))) (ev_int (i := 1))) (by omega)) (congrArg PyData.int htm)) (ev_varI (i := 6) rfl (Im.int _)) (by show 1 ≤ ns.length ∧ ns.length ≤ 8; omega) (by show frm + 1 + many ≤ 100; omega) tmb (by show wide ≤ 3; omega)) fun u7 H8 s8 p8 => ?_
    obtain ⟨ts, htr, p8⟩ := p8
    have nm := names_of_rows (top := top) (by omega) hz
    have e8 := s8 _ _ el
    have il8 := il.same s8
    refine s_ret (ev_tup3 (K := K) (ev_varI (i := 4) rfl (Im.int top)) (ev_tupleL (ev_varL (i := 8) rfl e8 il8)) (ev_varI (i := 10) rfl p8)) fun v H9 s9 p9 => q v H9 ((s0'.trans s8).trans s9) ⟨⟨top, zs, ts⟩, ⟨⟨?_, ?_, ?_, ?_⟩, ?_, htr.len, ⟨by show 0 < top; omega, ht.2⟩, ?_, ?_, ?_⟩, p9⟩
    · show Ris ltS (zs.map (·.n))
      rw [nm]; exact nmr.ris
    · show spring ∉ zs.map (·.n)
      rw [nm]; exact good_noS nmr.good
    · show drain ∉ zs.map (·.n)
      rw [nm]; exact good_noD nmr.good
    · intro t h
      show t.x ∈ zs.map (·.n) ∧ t.y ∈ zs.map (·.n)
      rw [nm]
      exact ⟨(htr.ok t h).1, (htr.ok t h).2.1⟩
    · show zs.length ≤ 8
      omega
    · intro z h
      obtain ⟨j, hj⟩ := List.getElem?_of_mem h
      obtain ⟨n, _, r⟩ := hz j z hj
      have r1 := r.a
      have r2 := r.b
      have r3 := r.c
      have r4 := r.d
      show (0 ≤ z.a ∧ z.a ≤ 10000) ∧ (0 ≤ z.b ∧ z.b ≤ 10000) ∧ (0 ≤ z.d ∧ z.d ≤ 10000) ∧ top * z.d ≤ z.c ∧ z.c ≤ 100000
      refine ⟨⟨r1.1, by omega⟩, ⟨r2.1, by omega⟩, ⟨r4.1, by omega⟩, r3.1, by omega⟩
    · intro t h
      have := (htr.ok t h).2.2
      show 1 ≤ t.s ∧ t.s ≤ 10000
      omega
    · intro x h
      have h : x ∈ zs.map (·.n) := h
      rw [nm] at h
      exact good_strOk (nmr.good x h)
theorem ev__law_web {σ : L2.St} {H : Hp} {ta tb tc : TE} (a : WbA) (h : Ev ta σ H (oS K a.xs)) (k : Ev tb σ H (oI K (.int (a.frm : Nat)))) (l : Ev tc σ H (oI K (.int (a.most : Nat)))) (hf : a.frm ≤ 50) (hm : 1 ≤ a.most ∧ a.most ≤ 8) :
    Ev (tCall (sp__law_web K) [] E0 (tCons ta (tCons tb (tCons tc tNil)))) σ H (oE WebOk fun W => oI K (webD W)) := ev_call a (eva_cons h (eva_cons k (eva_cons l eva_nil))) ⟨hf, hm⟩
def sp__law_drawn (K : PySem.W.Frag) : Sp := spD (α := List Int) (fun a => [oS K a]) (fun _ => True) fun _ => oE WebOk fun W => oI K (webD W)
theorem at__law_drawn (T : Tx K mg) : At P w K mg base 4 "_law_drawn" ["_law_script"] (sp__law_drawn K) := by
  refine at_of T.d__law_drawn sc__law_drawn (fun _ => rfl) fun f cdv A outer s H vs Q E a hr hp ha q => ?_
  refine ⟨_, (pss_cons (ps_set (i := 1) sc__law_drawn.nd rfl (Or.inl rfl) (pe_at (at__law_numbers T) (hr.mono (by decide)) (by rfl) (pa_cons (pe_at (at__law_cell T) (hr.mono (by decide)) (by rfl) (pa_cons (pv 0) (pa_cons pe_int pa_nil))) (pa_cons pe_int pa_nil))))
 (pss_cons (ps_set (i := 2) sc__law_drawn.nd rfl (Or.inl rfl) (pe_at (at__law_web T) (hr.mono (by decide)) (by rfl) (pa_cons (pv 0) (pa_cons pe_int (pa_cons (pe_ix (r := rIxL K) ix_list (pe_lst (pa_cons pe_int (pa_cons pe_int (pa_cons pe_int (pa_cons pe_int pa_nil))))) (pe_op op_mod (pe_ix (r := rIxL K) ix_list (pv 1) pe_int (fun _ _ => rfl)) pe_int) (fun _ _ => rfl)) pa_nil)))))
 (pss_cons (ps_if (pt_cmpR op_eq (pe_op op_mod (pe_ix (r := rIxL K) ix_list (pv 1) pe_int (fun _ _ => rfl)) pe_int) pe_int (nomark _)) (pss_one (ps_ret (pv 2))) pss_nil)
 (pss_cons (ps_set (i := 3) sc__law_drawn.nd rfl (Or.inl rfl) (pe_lst pa_nil))
 (pss_cons (ps_for PassesOwn.never rfl (show PI _ _ _ (iTup K _) from pi_tup (pe_ix (r := rIxT K) ix_tup (pv 2) pe_int (fun _ _ => rfl))) (show PG _ _ (gTup K 5 _) from pg_tup rfl (pgs_cons (pg_name (i := 4) sc__law_drawn.nd rfl (Or.inl rfl)) (pgs_cons (pg_name (i := 5) sc__law_drawn.nd rfl (Or.inl rfl)) (pgs_cons (pg_name (i := 6) sc__law_drawn.nd rfl (Or.inl rfl)) (pgs_cons (pg_name (i := 7) sc__law_drawn.nd rfl (Or.inl rfl)) (pgs_cons (pg_name (i := 8) sc__law_drawn.nd rfl (Or.inl rfl)) pgs_nil)))))) (pss_one (ps_expr (pe_bm PySem.F.plainAttrs_list PySem.F.slot_list_append PySem.F.type_list_append mt_append (pv 3) (pa_cons (pe_tup (pa_cons (pv 4) (pa_cons (pe_op op_mod (pv 5) pe_int) (pa_cons (pe_op op_mod (pv 6) pe_int) (pa_cons (pe_op op_add (pe_op op_mulW (pe_op op_mod (pv 8) pe_int) (pe_ix (r := rIxT K) ix_tup (pv 2) pe_int (fun _ _ => rfl))) (pe_op op_mod (pv 7) pe_int)) (pa_cons (pe_op op_mod (pv 8) pe_int) pa_nil)))))) pa_nil)))))
 (pss_one (ps_ret (pe_tup (pa_cons (pe_ix (r := rIxT K) ix_tup (pv 2) pe_int (fun _ _ => rfl)) (pa_cons (pe_callTy (r := rTupleOf K) cr_tupleOf (by rfl) T.m_tuple (by decide +kernel) (pa_cons (pv 3) pa_nil)) (pa_cons (pe_callTy (r := rTupleOf K) cr_tupleOf (by rfl) T.m_tuple (by decide +kernel) (pa_cons (pe_lc rfl sc__law_drawn.nd (show PI _ _ _ (iTup K _) from pi_tup (pe_ix (r := rIxT K) ix_tup (pv 2) pe_int (fun _ _ => rfl))) (blkOk_by (N := N__law_drawn) (sc := defScope s__law_drawn) (own := [("_law_one", 9), ("_law_other", 10), ("_law_size", 11)]) (by decide +kernel)) (fun _ _ _ _ _ => (show PG _ _ (gTup K 3 _) from pg_tup rfl (pgs_cons (pg_name (i := 9) sc__law_drawn.nd rfl (Or.inl rfl)) (pgs_cons (pg_name (i := 10) sc__law_drawn.nd rfl (Or.inl rfl)) (pgs_cons (pg_name (i := 11) sc__law_drawn.nd rfl (Or.inl rfl)) pgs_nil))))) (fun _ _ _ _ _ => pts_nil) (fun _ _ _ _ _ => (pe_tup (pa_cons (pv 9) (pa_cons (pv 10) (pa_cons (pe_op op_add pe_int (pe_op op_mod (pv 11) pe_int)) pa_nil)))))) pa_nil)) pa_nil))))))))))), ?_⟩
  walk_at "nk"
  obtain ⟨v1, rfl, h1⟩ := oall1 ha
  have h1 : (oS K a).p v1 H := h1
  have SC : ∀ {σ : L2.St} {H9 : Hp}, σ[0]? = some (some v1) → Same H H9 → Ev (tVar 0) σ H9 (oS K a) := fun e s => ev_varSc e h1 s
  refine q_set (ev__law_numbers (K := K) (m := 20) (ev__law_cell (ns := a) (k := 0) (SC rfl (Same.refl _)) ev_int (by decide)) ev_int (by decide)) fun u H1 s1 p1 => ?_
  obtain ⟨nu, nr, p1⟩ := p1
  have p1 : LsAt K H1 u (intsD nu) := p1
  obtain ⟨x17, g17, b17, c17⟩ := nr.get 17 (by decide)
  obtain ⟨x18, g18, b18, c18⟩ := nr.get 18 (by decide)
  have m4 := mod_bd x17 (j := 4) (by decide)
  obtain ⟨mo, gm, m1, m2⟩ := pick_get (l := [5, 6, 6, 8]) (w := (x17 % 4).toNat) (a := 1) (b := 8) (by simp; omega) (by decide)
  obtain ⟨most, rfl⟩ := Int.eq_ofNat_of_zero_le (a := mo) (by omega)
  refine q_set (ev__law_web (K := K) ⟨a, 0, most⟩ (SC rfl s1) ev_int (ev_pick (K := K) [5, 6, 6, 8] (x17 % 4).toNat (by omega) (ev_mod (ev_num 17 rfl (ev_varLs (i := 1) rfl p1) g17) ev_int (by decide)) gm (by decide)) (by show 0 ≤ 50; decide) (by show 1 ≤ most ∧ most ≤ 8; omega)) fun u2 H2 s2 p2 => ?_
  obtain ⟨W, hw, p2⟩ := p2
  have p2 : Im K H2 u2 (webD W) := p2
  have s02 := s1.trans s2
  have WB : ∀ {σ : L2.St} {H9 : Hp}, σ[2]? = some (some u2) → TupKeep H2 H9 → Ev (tVar 2) σ H9 (oI K (.tuple [.int W.top, .tuple (W.places.map placeD), .tuple (W.ties.map tieD)])) := fun e s => ev_varI e (p2.keep s)
  refine q_when (evb_test (ev_eqI (K := K) (ev_mod (ev_num 18 rfl (ev_varLs (i := 1) rfl (p1.same s2)) g18) ev_int (by decide)) ev_int)) (fun hb H3 s3 => ?_) fun hb H3 s3 => ?_
  · exact s_ret (ev_varI (K := K) (i := 2) rfl (Im.same s3 p2)) fun v H4 s4 p4 => q v H4 ((s02.trans s3).trans s4) ⟨W, hw, p4⟩
  refine q_set (ev_nil (K := K)) fun vf H4 s4 p4 => ?_
  obtain ⟨lf, xf, rfl, nf, ef, if_⟩ := p4
  cases if_
  have s03 := s02.trans s3
  have nf0 : H lf = none := s03.free nf
  refine q_for (evi_tup (ev_ixT (i := 1) (WB rfl (tk_same (s3.trans s4))) ev_int rfl)) fun H5 s5 => ?_
  have s05 := (s03.trans s4).trans s5
  refine ⟨fun i σ' H' => ∃ x4 x5 x6 x7 x8 xs, σ' = [some v1, some u, some u2, some (.ref lf), x4, x5, x6, x7, x8, none, none, none] ∧ Same H H' ∧ TupKeep H2 H' ∧ TupKeep H5 H' ∧ H' lf = some (.lst xs) ∧ ImAll K H' xs (((W.places.take i).map (liteP W.top)).map placeD),
    ⟨none, none, none, none, none, [], rfl, s05, tk_same ((s3.trans s4).trans s5), TupKeep.refl _, s5 _ _ ef, .nil⟩, fun i σ' H' ⟨_, _, _, _, _, _, _, _, _, k, _⟩ => k, ?_, ?_⟩
  · rintro i dd y σ' H' H'' hdd ⟨x4, x5, x6, x7, x8, xs, rfl, sH, tk2, tk, el, il⟩ smm hy
    obtain ⟨z, hz, rfl, hzm⟩ := get_map hdd
    refine g_names5 (d1 := .str z.n) (d2 := .int z.a) (d3 := .int z.b) (d4 := .int z.c) (d5 := .int z.d) hy fun w1 w2 w3 w4 w5 q1 q2 q3 q4 q5 => ?_
    have e0 := smm _ _ el
    have bt := hw.tp
    have md := mod_bd z.d (j := 2) (by decide)
    have nl := hw.np
    refine s_app e0 (ev_varV (i := 3) rfl) (P := oI K (placeD (liteP W.top z))) (ev_tup5 (K := K) (ev_varI (i := 4) rfl q1) (ev_mod (ev_varI (i := 5) rfl q2) ev_int (by decide)) (ev_mod (ev_varI (i := 6) rfl q3) ev_int (by decide)) (ev_add (ev_mul (ev_mod (ev_varI (i := 8) rfl q5) ev_int (by decide)) (ev_ixT (i := 0) (WB rfl (tk2.trans (tk_same smm))) ev_int rfl) (cm_of (by omega) (by omega))) (ev_mod (ev_varI (i := 7) rfl q4) ev_int (by decide))) (ev_mod (ev_varI (i := 8) rfl q5) ev_int (by decide))) (by rw [il.length, List.length_map, List.length_map, List.length_take]; omega) fun v H8 s8 p8 => ?_
    have k8 : TupKeep H8 (upd H8 lf (.lst (xs ++ [v]))) := tk_upd (s8 _ _ e0) trivial
    refine ⟨_, _, _, _, _, _, rfl, same_mut ((sH.trans smm).trans s8) nf0, (tk2.trans (tk_same (smm.trans s8))).trans k8, (tk.trans (tk_same (smm.trans s8))).trans k8, upd_same, ?_⟩
    rw [List.take_add_one, hz, List.map_append, List.map_append]
    exact ((il.same (smm.trans s8)).keep k8).snoc (Im.keep k8 p8)
  · rintro σ' H' ⟨x4, x5, x6, x7, x8, xs, rfl, sH, tk2, tk, el, il⟩
    rw [List.length_map, List.take_length] at il
    have nt := hw.nt
    refine s_ret (ev_tup3 (K := K) (d := .int W.top) (e := .tuple ((W.places.map (liteP W.top)).map placeD)) (f := .tuple ((W.ties.map liteT).map tieD)) (ev_ixT (i := 0) (WB rfl tk2) ev_int rfl) (ev_tupleL (ev_varL (i := 3) rfl el il)) (ev_tupleL (Ev.ls (ev_lcmA (K := K) W.ties tieD (fun t => tieD (liteT t)) (evi_tup (ev_ixT (i := 2) (WB rfl tk2) ev_int rfl)) (by omega) (fun t x H9 ht s9 p9 => ?_) (gm_tup (gm_cons gm_name (gm_cons gm_name (gm_cons gm_name gm_nil)))) (by rw [List.map_map]; rfl))))) fun v H9 s9 p9 => q v H9 (sH.trans s9) ⟨lite W, lite_ok hw, p9⟩
    refine g_names3 (d1 := .str t.x) (d2 := .str t.y) (d3 := .int t.s) p9 fun w1 w2 w3 q1 q2 q3 => ⟨rfl, Same.refl _, ?_⟩
    exact ev_tup3 (ev_varI (i := 9) rfl q1) (ev_varI (i := 10) rfl q2) (ev_add ev_int (ev_mod (ev_varI (i := 11) rfl q3) ev_int (by decide)))
theorem ev__law_drawn {σ : L2.St} {H : Hp} {ta : TE} (a : List Int) (h : Ev ta σ H (oS K a)) : Ev (tCall (sp__law_drawn K) [] E0 (tCons ta tNil)) σ H (oE WebOk fun W => oI K (webD W)) := ev_call a (eva_cons h eva_nil) trivial
end
end Cut
end
section
namespace Cut
open PySem PySem.Spec PyProof.Rows L2
local macro_rules | `(tactic| walk_at "nk") => `(tactic| first | dsimp only [cxOf, Cx.nox, Cx.wish, Cx.blk] | skip)
local macro_rules | `(tactic| walk_at "im") => `(tactic| first
  | assumption
  | exact Im.int _ | exact Im.str _ | exact Im.bl _ | exact Im.non
  | (refine Im.same (by assumption) ?_; walk_at "im"))
local macro_rules | `(tactic| walk_at "side") => `(tactic| first | assumption | rfl | omega)
local macro_rules | `(tactic| walk_at "ev") => `(tactic| first
  | (with_reducible exact ev_int) | (with_reducible exact ev_str) | (with_reducible exact ev_bl) | (with_reducible exact ev_non)
  | ((with_reducible apply ev_varI); rfl; walk_at "im")
  | ((with_reducible apply ev_ixT); walk_at "ev"; walk_at "ev"; walk_at "side")
  | ((with_reducible apply ev_add); walk_at "ev"; walk_at "ev")
  | ((with_reducible apply ev_sub); walk_at "ev"; walk_at "ev")
  | ((with_reducible apply ev_mul); walk_at "ev"; walk_at "ev"; walk_at "side")
  | ((with_reducible apply ev_div); walk_at "ev"; walk_at "ev"; walk_at "side")
  | ((with_reducible apply ev_mod); walk_at "ev"; walk_at "ev"; walk_at "side")
  | ((with_reducible apply ev_eqI); walk_at "ev"; walk_at "ev")
  | ((with_reducible apply ev_neI); walk_at "ev"; walk_at "ev")
  | ((with_reducible apply ev_eqS); walk_at "ev"; walk_at "ev")
  | ((with_reducible apply ev_neS); walk_at "ev"; walk_at "ev")
  | ((with_reducible apply ev_cmp); walk_at "ev"; walk_at "ev")
  | ((with_reducible apply ev_tup1); walk_at "ev")
  | ((with_reducible apply ev_tup2); walk_at "ev"; walk_at "ev")
  | ((with_reducible apply ev_tup3); walk_at "ev"; walk_at "ev"; walk_at "ev")
  | ((with_reducible apply ev_tup4); walk_at "ev"; walk_at "ev"; walk_at "ev"; walk_at "ev")
  | ((with_reducible apply ev_tup5); walk_at "ev"; walk_at "ev"; walk_at "ev"; walk_at "ev"; walk_at "ev")
  | ((with_reducible apply ev_lenT); walk_at "ev")
  | ((with_reducible apply ev_abs); walk_at "ev")
  | ((with_reducible apply ev_tupleL); walk_at "ev")
  | ((with_reducible apply ev_notV); walk_at "ev")
  | assumption)

/-! the cuts told anew from the shape -/
theorem bit_is (m k : Nat) : decide (Builtin.bitAnd ((m : Int) / 2 ^ ((k : Int)).toNat) 1 = 1) = decide (m / 2 ^ k % 2 = 1) := by
  have hx : (0 : Int) ≤ (m : Int) / 2 ^ ((k : Int)).toNat := Int.ediv_nonneg (by omega) (Int.le_of_lt (Int.pow_pos (by decide)))
  have h : Builtin.bitAnd ((m : Int) / 2 ^ ((k : Int)).toNat) 1 = ((m : Int) / 2 ^ ((k : Int)).toNat) % 2 := Bits.bitAnd_mask 1 hx
  rw [h]
  have e : ((m : Int) / 2 ^ ((k : Int)).toNat) % 2 = ((m / 2 ^ k % 2 : Nat) : Int) := by
    rw [Int.toNat_natCast, Int.natCast_emod, Int.natCast_ediv, Int.natCast_pow]
    rfl
  rw [e]
  exact decide_eq_decide.mpr ⟨fun z => by omega, fun z => by omega⟩
theorem mask_sub {n m : Nat} (h : m < 2 ^ n) : maskSet n m ∈ subsN n := by
  rw [← masks]
  exact List.mem_map.mpr ⟨m, List.mem_range.mpr h, rfl⟩
section
variable {K : PySem.W.Frag} {σ : L2.St} {H : Hp} {te ta tb : TE}
theorem ev_inNatL {neg : Bool} {i : Nat} {l : List Nat} (h : Ev ta σ H (oI K (.int (i : Nat)))) (k : Ev tb σ H (oL K (l.map fun (i : Nat) => PyData.int i))) : Ev (tOp (rIn K neg) ta tb) σ H (oI K (.bool (if neg then !decide (i ∈ l) else decide (i ∈ l)))) := by
  have k' : Ev tb σ H (oQ K ((l.map fun (i : Nat) => (i : Int)).map .int)) := by
    rw [← nats_int]
    exact k.qL
  have := ev_inN (neg := neg) h k'
  rw [mem_nats] at this
  exact this
theorem ev_shl1 {n : Nat} (h : Ev te σ H (oI K (.int (n : Nat)))) (hn : n ≤ 1000) : Ev (tOp (rI CPow fun i j => .int (i * 2 ^ j.toNat)) (tC (.int 1)) te) σ H (oI K (.int ((2 ^ n : Nat) : Int))) := by
  refine ev_I (K := K) ev_int h ⟨by omega, by omega, by decide⟩ ?_
  have e : (1 : Int) * 2 ^ ((n : Int)).toNat = ((2 ^ n : Nat) : Int) := by
    rw [Int.one_mul, Int.toNat_natCast, Int.natCast_pow]
    rfl
  rw [e]
  exact Im.int _
end
section
variable {P : Program} {w : World} {K : PySem.W.Frag} {mg : Str → Option Value} {base : Heap}
noncomputable def sp__law_by_shape (K : PySem.W.Frag) : Sp := spD (α := Web × Fr) (fun a => [oI K (shapeD (shapeOf a.1.names (fam a.1 a.2.1 a.2.2)))]) (fun a => WebOk a.1) fun a => oE (CutsAt a.1 a.2.1 a.2.2) fun ls => oL K (ls.map strsD)
theorem at__law_by_shape (T : Tx K mg) : At P w K mg base 1 "_law_by_shape" ["_law_shape"] (sp__law_by_shape K) := by
  refine at_of T.d__law_by_shape sc__law_by_shape (fun _ => rfl) fun f cdv A outer s H vs Q E a hr hp ha q => ?_
  refine ⟨_, (pss_cons (ps_asg (pv 0) (show PG _ _ (gTup K 3 _) from pg_tup rfl (pgs_cons (pg_name (i := 1) sc__law_by_shape.nd rfl (Or.inl rfl)) (pgs_cons (pg_name (i := 2) sc__law_by_shape.nd rfl (Or.inl rfl)) (pgs_cons (pg_name (i := 3) sc__law_by_shape.nd rfl (Or.inl rfl)) pgs_nil)))))
 (pss_cons (ps_set (i := 4) sc__law_by_shape.nd rfl (Or.inl rfl) (pe_lst pa_nil))
 (pss_cons (ps_for PassesOwn.never rfl (pi_range1 (by rfl) T.m_range (pa_cons (pe_op op_shl pe_int (pe_callB (r := rLenS K) cr_lenS (by rfl) T.m_len (by decide +kernel) (pa_cons (pv 2) pa_nil))) pa_nil)) (pg_name (i := 5) sc__law_by_shape.nd rfl (Or.inr rfl)) (pss_cons (ps_set (i := 6) sc__law_by_shape.nd rfl (Or.inr rfl) (pe_lc rfl sc__law_by_shape.nd (pi_range1 (by rfl) T.m_range (pa_cons (pe_callB (r := rLenS K) cr_lenS (by rfl) T.m_len (by decide +kernel) (pa_cons (pv 2) pa_nil)) pa_nil)) (blkOk_by (N := N__law_by_shape) (sc := defScope s__law_by_shape) (own := [("_law_k", 7)]) (by decide +kernel)) (fun _ _ _ _ _ => (pg_name (i := 7) sc__law_by_shape.nd rfl (Or.inl rfl))) (fun _ _ _ _ _ => (pts_one (pt_cmpR op_eq (pe_op op_and (pe_op op_shr (pv 5) (pv 7)) pe_int) pe_int (nomark _)))) (fun _ _ _ _ _ => (pv 7))))
 (pss_one (ps_if (pt_val (pe_callB (r := rAll K) (cr_all rfl) (by rfl) T.m_all (by decide +kernel) (pa_cons (pe_lc rfl sc__law_by_shape.nd (show PI _ _ _ (iTup K _) from pi_tup (pv 3)) (blkOk_by (N := N__law_by_shape) (sc := defScope s__law_by_shape) (own := [("_law_i", 8), ("_law_j", 9)]) (by decide +kernel)) (fun _ _ _ _ _ => (show PG _ _ (gTup K 2 _) from pg_tup rfl (pgs_cons (pg_name (i := 8) sc__law_by_shape.nd rfl (Or.inl rfl)) (pgs_cons (pg_name (i := 9) sc__law_by_shape.nd rfl (Or.inl rfl)) pgs_nil)))) (fun _ _ _ _ _ => (pts_one (pt_cmpR (r := rIn K false) op_in_seq (pv 8) (pv 6) (by rfl)))) (fun _ _ _ _ _ => (pe_cmpR (r := rIn K false) op_in_seq (pv 9) (pv 6) (by rfl)))) pa_nil))) (pss_cons (ps_set (i := 10) sc__law_by_shape.nd rfl (Or.inl rfl) (pe_callTy (r := rListOf K) cr_listOf (by rfl) T.m_list (by decide +kernel) (pa_cons (pv 1) pa_nil)))
 (pss_cons (ps_for PassesOwn.never rfl (show PI _ _ _ (iList K _) from pi_list (pv 6)) (pg_name (i := 7) sc__law_by_shape.nd rfl (Or.inl rfl)) (pss_one (ps_expr (pe_bm PySem.F.plainAttrs_list PySem.F.slot_list_extend PySem.F.type_list_extend mt_extendT (pv 10) (pa_cons (pe_ix (r := rIxT K) ix_tup (pv 2) (pv 7) (fun _ _ => rfl)) pa_nil)))))
 (pss_one (ps_expr (pe_bm PySem.F.plainAttrs_list PySem.F.slot_list_append PySem.F.type_list_append mt_append (pv 4) (pa_cons (pe_callTy (r := rTupleOf K) cr_tupleOf (by rfl) T.m_tuple (by decide +kernel) (pa_cons (pe_callB (r := rSortedS K) cr_sortedS (by rfl) T.m_sorted (by decide +kernel) (pa_cons (pv 10) pa_nil)) pa_nil)) pa_nil)))))) pss_nil))))
 (pss_one (ps_ret (pe_callB (r := rSortR K) (cr_sortR (units65 hr)) (by rfl) T.m_sorted (by decide +kernel) (pa_cons (pv 4) pa_nil))))))), ?_⟩
  walk_at "nk"
  obtain ⟨v1, rfl, h1⟩ := oall1 ha
  obtain ⟨W, L⟩ := a
  have hw : WebOk W := hp
  let fm := fam W L.1 L.2
  let sh := shapeOf W.names fm
  have sok : ShOk sh := sh_ok hw fm
  have lb := sok.lb
  have la := sok.la
  have h1 : Im K H v1 (.tuple [strsD sh.low, .tuple (sh.blocks.map strsD), .tuple (sh.arrows.map pairND)]) := h1
  refine q_asg (ev_varI (K := K) (i := 0) rfl h1) fun u0 H1 s1 p1 => ?_
  refine g_names3 (d1 := strsD sh.low) (d2 := .tuple (sh.blocks.map strsD)) (d3 := .tuple (sh.arrows.map pairND)) p1 fun w1 w2 w3 q1 q2 q3 => ?_
  have BL : ∀ {σ : L2.St} {H9 : Hp}, σ[2]? = some (some w2) → TupKeep H1 H9 → Ev (tVar 2) σ H9 (oI K (.tuple (sh.blocks.map strsD))) := fun e s => ev_varI e (q2.keep s)
  have AR : ∀ {σ : L2.St} {H9 : Hp}, σ[3]? = some (some w3) → TupKeep H1 H9 → Ev (tVar 3) σ H9 (oI K (.tuple (sh.arrows.map pairND))) := fun e s => ev_varI e (q3.keep s)
  have LB : ∀ {σ : L2.St} {H9 : Hp}, σ[2]? = some (some w2) → TupKeep H1 H9 → Ev (tCB (rLenS K) (tCons (tVar 2) tNil)) σ H9 (oI K (.int (sh.blocks.length : Nat))) := fun e s => ev_isD (ev_lenT (BL e s)) (by rw [List.length_map])
  refine q_set (ev_nil (K := K)) fun vf H2 s2 p2 => ?_
  obtain ⟨lf, xf, rfl, nf, ef, if_⟩ := p2
  cases if_
  have nf0 : H lf = none := s1.free nf
  have pw : 2 ^ sh.blocks.length ≤ 2 ^ 8 := Nat.pow_le_pow_right (by decide) lb
  generalize hN : sh.blocks.length = n at pw
  refine q_for (evi_rng1 (K := K) (n := ((2 ^ n : Nat) : Int)) (by rw [← hN]; exact ev_shl1 (LB rfl (tk_same s2)) (by omega)) ⟨Int.natCast_nonneg _, Int.ofNat_le.mpr (Nat.le_trans pw (by decide))⟩) fun H3 s3 => ?_
  refine ⟨fun i σ' H' => ∃ x5 x6 x7 x10 xs, σ' = [some v1, some w1, some w2, some w3, some (.ref lf), x5, x6, x7, none, none, x10] ∧ Same H H' ∧ TupKeep H1 H' ∧ TupKeep H3 H' ∧ i ≤ 2 ^ n ∧ H' lf = some (.lst xs) ∧ ImAll K H' xs (((((List.range i).map (maskSet n)).filter (closedSet sh.arrows)).map (cutOf W.names fm)).map strsD),
    ⟨none, none, none, none, [], rfl, (s1.trans s2).trans s3, tk_same (s2.trans s3), TupKeep.refl _, Nat.zero_le _, s3 _ _ ef, .nil⟩, fun i σ' H' ⟨_, _, _, _, _, _, _, _, k, _⟩ => k, ?_, ?_⟩
  · rintro i dd y σ' H' H'' hd ⟨x5, x6, x7, x10, xs, rfl, sH, tk1, tk, _, el, il⟩ smm hy
    obtain ⟨i', hi', rfl, him⟩ := get_map hd
    obtain rfl : i' = i := by
      obtain ⟨_, e⟩ := List.getElem?_eq_some_iff.mp hi'
      rw [List.getElem_range] at e
      exact e.symm
    have hib : i' < 2 ^ n := List.mem_range.mp him
    obtain rfl := Im.int_inv hy
    have tkm := tk1.trans (tk_same smm)
    let som := maskSet n i'
    have hsub : som ∈ subsN (blocksOf W.names fm).length := by
      have : (blocksOf W.names fm).length = n := hN
      rw [this]
      exact mask_sub hib
    have lsom : som.length ≤ n := by
      refine Nat.le_trans (List.length_filter_le _ _) ?_
      rw [List.length_range]
      exact Nat.le_refl _
    have n8 : n ≤ 8 := by omega
    have next : ((List.range (i' + 1)).map (maskSet n)).filter (closedSet sh.arrows) = ((List.range i').map (maskSet n)).filter (closedSet sh.arrows) ++ if closedSet sh.arrows som = true then [som] else [] := by
      rw [List.range_succ, List.map_append, List.filter_append]
      congr 1
      show List.filter _ [som] = _
      rw [List.filter_cons]
      split <;> simp_all
    show tSeq _ _ _ _ _
    refine q_set (ev_lcm (K := K) (List.range n) (fun (k : Nat) => PyData.int k) (fun k => decide (i' / 2 ^ k % 2 = 1)) (fun (k : Nat) => PyData.int k) (evi_rng1 (K := K) (n := (n : Nat)) (by rw [← hN]; exact LB rfl tkm) ⟨by omega, by omega⟩) (by rw [List.length_range]; omega) (fun k x H4 hk s4 p4 => ⟨rfl, Same.refl _, evb_is (evb_test (ev_eqI (K := K) (ev_I0 (K := K) (P := oI K (.int (Builtin.bitAnd ((i' : Int) / 2 ^ ((k : Int)).toNat) 1))) (ev_I (K := K) (P := oI K (.int ((i' : Int) / 2 ^ ((k : Int)).toNat))) (ev_varI (i := 5) rfl (Im.int _)) (ev_varI (i := 7) rfl p4) (by omega) (Im.int _)) ev_int (Im.int _)) ev_int)) (bit_is i' k), fun _ => ev_varI (i := 7) rfl p4⟩) gm_name rfl) fun u6 H4 s4 p4 => ?_
    obtain ⟨la6, ys, rfl, n6, e6, i6⟩ := p4
    have i6 : ImAll K H4 ys (som.map fun (k : Nat) => PyData.int k) := i6
    have SM : ∀ {σ : L2.St} {H9 : Hp}, σ[6]? = some (some (.ref la6)) → Same H4 H9 → Ev (tVar 6) σ H9 (oL K (som.map fun (k : Nat) => PyData.int k)) := fun e s => ev_varL e (s _ _ e6) (i6.same s)
    have tk4 := tkm.trans (tk_same s4)
    have el4 := s4 _ _ (smm _ _ el)
    refine s_when (b := closedSet sh.arrows som) (evb_is (evb_B (ev_all (K := K) (bs := (sh.arrows.filter fun p => decide (p.1 ∈ som)).map fun p => decide (p.2 ∈ som)) (Ev.ls (ev_lcm sh.arrows pairND (fun p => decide (p.1 ∈ som)) (fun p => .bool (decide (p.2 ∈ som)))
      (evi_tup (AR rfl tk4)) (by omega) (fun p v2 H5 hpm s5 p5 => g_names2 (d1 := .int (p.1 : Nat)) (d2 := .int (p.2 : Nat)) p5 fun u4 u5 k4 k5 => ⟨rfl, Same.refl _, evb_test (ev_inNatL (neg := false) (ev_varI (i := 8) rfl k4) (SM rfl s5)), fun _ => ev_inNatL (neg := false) (ev_varI (i := 9) rfl k5) (SM rfl s5)⟩) (gm_tup (gm_cons gm_name (gm_cons gm_name gm_nil))) (by rw [List.map_map]; rfl))))) (all_closed sh.arrows som)) (fun hb H5 s5 => ?_) fun hb H5 s5 => ?_
    · have s45 := s4.trans s5
      refine q_set (ev_listQ (K := K) (ds := sh.low.map .str) (ev_varI (d := strsD sh.low) (i := 1) rfl (q1.keep (tk4.trans (tk_same s5)))).qT) fun un H6 s6 p6 => ?_
      obtain ⟨ln, xn, rfl, nn, en, in_⟩ := p6
      obtain rfl := in_.strs
      have el6 := s6 _ _ (s5 _ _ el4)
      have e66 := s6 _ _ (s5 _ _ e6)
      have nfn : lf ≠ ln := ne_of_none (s5 _ _ el4) nn
      have n6n : la6 ≠ ln := ne_of_none (s5 _ _ e6) nn
      have nn0 : H ln = none := ((sH.trans smm).trans s45).free nn
      have tk6 := (tk4.trans (tk_same s5)).trans (tk_same s6)
      refine q_forA (evi_listA (ev_varV (i := 6) rfl) e66 (i6.same (s5.trans s6))) fun H7 s7 => ?_
      refine ⟨fun j σ' H' => ∃ x7, σ' = [some v1, some w1, some w2, some w3, some (.ref lf), some (.int (i' : Nat)), some (.ref la6), x7, none, none, some (.ref ln)] ∧ Same H H' ∧ TupKeep H7 H' ∧ H' la6 = some (.lst ys) ∧ H' lf = some (.lst xs) ∧ H' ln = some (.lst ((rawCut sh (som.take j)).map V.str)),
        ⟨_, rfl, (((sH.trans smm).trans s45).trans s6).trans s7, TupKeep.refl _, s7 _ _ e66, s7 _ _ el6, ?_⟩, fun j σ' H' ⟨_, _, _, k1, k2, _⟩ => ⟨k1, k2⟩, ?_, ?_⟩
      · have e : rawCut sh (som.take 0) = sh.low := by
          unfold rawCut
          simp
        rw [e]
        exact s7 _ _ en
      · rintro j dd z σ' H' H'' hd ⟨x7, rfl, sH5, tk5, ea5, ef5, en5⟩ sm5 hz
        obtain ⟨k, hk, rfl, hkm⟩ := get_map hd
        obtain rfl := Im.int_inv hz
        have kb : k < sh.blocks.length := subsN_lt hsub k hkm
        have eb' : sh.blocks[k]? = some sh.blocks[k] := List.getElem?_eq_getElem kb
        generalize sh.blocks[k] = blk at eb'
        have tk7 : TupKeep H1 H'' := ((tk6.trans (tk_same s7)).trans tk5).trans (tk_same sm5)
        have en6 := sm5 _ _ en5
        have lraw : (rawCut sh (som.take (j + 1))).length ≤ 8 := by
          have h1 := raw_len hw hsub
          have h2 : rawCut sh som = rawCut sh (som.take (j + 1)) ++ (som.drop (j + 1)).flatMap fun i => (sh.blocks[i]?).getD [] := by
            unfold rawCut
            rw [List.append_assoc, ← List.flatMap_append, List.take_append_drop]
          rw [h2, List.length_append] at h1
          omega
        rw [raw_take hk eb', List.length_append] at lraw
        refine s_extT en6 (ev_varV (i := 10) rfl) (ds := blk.map .str) (ev_ixT (d := strsD blk) (BL rfl tk7) (ev_varI (i := 7) rfl (Im.int _)) (atI_nat (by rw [List.getElem?_map, eb']; rfl))) (by rw [List.length_map, List.length_map]; omega) fun zs' H8 s8 i8 => ?_
        obtain rfl := i8.strs
        refine ⟨_, rfl, same_mut ((sH5.trans sm5).trans s8) nn0, (tk5.trans (tk_same (sm5.trans s8))).trans (tk_upd (s8 _ _ en6) trivial), ?_, ?_, ?_⟩
        · rw [upd_ne n6n]
          exact s8 _ _ (sm5 _ _ ea5)
        · rw [upd_ne nfn]
          exact s8 _ _ (sm5 _ _ ef5)
        · rw [upd_same, raw_take hk eb', List.map_append]
      · rintro σ' H' ⟨x7, rfl, sH5, tk5, ea5, ef5, en5⟩
        rw [List.length_map, List.take_length] at en5
        have lz : xs.length ≤ 256 := by
          rw [il.length, List.length_map, List.length_map]
          refine Nat.le_trans (List.length_filter_le _ _) ?_
          rw [List.length_map, List.length_range]
          omega
        refine s_app ef5 (ev_varV (i := 4) rfl) (P := oI K (strsD (cutOf W.names fm som))) (ev_norm hw hsub (ev_varL (i := 10) rfl en5 (ImAll.of_strs _))) (by omega) fun u H8 s8 p8 => ?_
        have k9 : TupKeep H8 (upd H8 lf (.lst (xs ++ [u]))) := tk_upd (s8 _ _ ef5) trivial
        have sb := ((s45.trans s6).trans s7)
        have tkb := (tk_same (smm.trans sb)).trans (tk5.trans ((tk_same s8).trans k9))
        refine ⟨_, _, _, _, _, rfl, same_mut (sH5.trans s8) nf0, tk1.trans tkb, tk.trans tkb, hib, upd_same, ?_⟩
        rw [next, if_pos hb, List.map_append, List.map_append]
        exact (((il.same (smm.trans sb)).keep tk5).same s8 |>.keep k9).snoc (Im.keep k9 p8)
    · refine ⟨_, _, _, _, xs, rfl, ((sH.trans smm).trans s4).trans s5, tk4.trans (tk_same s5), tk.trans (tk_same ((smm.trans s4).trans s5)), hib, s5 _ _ el4, ?_⟩
      rw [next, if_neg (by rw [hb]; decide), List.append_nil]
      exact il.same ((smm.trans s4).trans s5)
  · rintro σ' H' ⟨x5, x6, x7, x10, xs, rfl, sH, tk1, tk, _, el, il⟩
    rw [List.length_map, List.length_range] at il
    have e : (((2 ^ n : Nat) : Int)).toNat = 2 ^ n := Int.toNat_natCast _
    rw [e, masks, ← hN] at il
    have il : ImAll K H' xs ((cutsList W.names fm).map strsD) := il
    refine s_ret (ev_sortR (K := K) (cs := cutsList W.names fm) (ev_varL (i := 4) rfl el il).qL (cuts_first fm)) fun v H9 s9 ⟨ls, ⟨pm, srt⟩, p9⟩ => q v H9 (sH.trans s9) ⟨ls, ⟨pm, ris_of sto_tup srt (pm.nodup_iff.mpr cutsList_nodup)⟩, LsNew.ls p9⟩
theorem ev__law_by_shape {σ : L2.St} {H : Hp} {ta : TE} {W : Web} {L : Fr} (h : Ev ta σ H (oI K (shapeD (shapeOf W.names (fam W L.1 L.2))))) (hw : WebOk W) : Ev (tCall (sp__law_by_shape K) [] E0 (tCons ta tNil)) σ H (oE (CutsAt W L.1 L.2) fun ls => oL K (ls.map strsD)) := ev_call (W, L) (eva_cons h eva_nil) hw
end
end Cut
end
section
namespace Cut
open PySem PySem.Spec PyProof.Rows L2
local macro_rules | `(tactic| walk_at "nk") => `(tactic| first | dsimp only [cxOf, Cx.nox, Cx.wish, Cx.blk] | skip)
local macro_rules | `(tactic| walk_at "im") => `(tactic| first
  | assumption
  | exact Im.int _ | exact Im.str _ | exact Im.bl _ | exact Im.non
  | (refine Im.same (by assumption) ?_; walk_at "im"))
local macro_rules | `(tactic| walk_at "side") => `(tactic| first | assumption | rfl | omega)
local macro_rules | `(tactic| walk_at "ev") => `(tactic| first
  | (with_reducible exact ev_int) | (with_reducible exact ev_str) | (with_reducible exact ev_bl) | (with_reducible exact ev_non)
  | ((with_reducible apply ev_varI); rfl; walk_at "im")
  | ((with_reducible apply ev_ixT); walk_at "ev"; walk_at "ev"; walk_at "side")
  | ((with_reducible apply ev_add); walk_at "ev"; walk_at "ev")
  | ((with_reducible apply ev_sub); walk_at "ev"; walk_at "ev")
  | ((with_reducible apply ev_mul); walk_at "ev"; walk_at "ev"; walk_at "side")
  | ((with_reducible apply ev_div); walk_at "ev"; walk_at "ev"; walk_at "side")
  | ((with_reducible apply ev_mod); walk_at "ev"; walk_at "ev"; walk_at "side")
  | ((with_reducible apply ev_eqI); walk_at "ev"; walk_at "ev")
  | ((with_reducible apply ev_neI); walk_at "ev"; walk_at "ev")
  | ((with_reducible apply ev_eqS); walk_at "ev"; walk_at "ev")
  | ((with_reducible apply ev_neS); walk_at "ev"; walk_at "ev")
  | ((with_reducible apply ev_cmp); walk_at "ev"; walk_at "ev")
  | ((with_reducible apply ev_tup1); walk_at "ev")
  | ((with_reducible apply ev_tup2); walk_at "ev"; walk_at "ev")
  | ((with_reducible apply ev_tup3); walk_at "ev"; walk_at "ev"; walk_at "ev")
  | ((with_reducible apply ev_tup4); walk_at "ev"; walk_at "ev"; walk_at "ev"; walk_at "ev")
  | ((with_reducible apply ev_tup5); walk_at "ev"; walk_at "ev"; walk_at "ev"; walk_at "ev"; walk_at "ev")
  | ((with_reducible apply ev_lenT); walk_at "ev")
  | ((with_reducible apply ev_abs); walk_at "ev")
  | ((with_reducible apply ev_tupleL); walk_at "ev")
  | ((with_reducible apply ev_notV); walk_at "ev")
  | assumption)

/-! the shape is right -/
theorem pairs_lay : ∀ ps : List (Nat × Nat), PyData.canLayAll0 (ps.map pairND) = true
  | [] => by simp [PyData.canLayAll0]
  | p :: ps => by
    have h2 := pairs_lay ps
    have h1 : PyData.canLay0 (pairND p) = true := by
      show PyData.canLay0 (.tuple [.int (p.1 : Nat), .int (p.2 : Nat)]) = true
      simp [PyData.canLay0, PyData.canLayAll0]
    simp [PyData.canLayAll0, h1, h2]
theorem pair_depth (p : Nat × Nat) : PyData.depth (pairND p) ≤ 1 := by
  show PyData.depth (.tuple [.int (p.1 : Nat), .int (p.2 : Nat)]) ≤ 1
  simp [PyData.depth, PyData.depthAll]
theorem pairs_depth : ∀ ps : List (Nat × Nat), PyData.depthAll (ps.map pairND) ≤ 1
  | [] => by simp [PyData.depthAll]
  | p :: ps => by
    have h := pairs_depth ps
    have d := pair_depth p
    simp only [List.map_cons, PyData.depthAll]
    omega
theorem shaped_pair (p : Nat × Nat) : SeqAt.shaped (pairND p) = true := by
  have d := pair_depth p
  have l := pairs_lay [p]
  have l : (PyData.canLay0 (pairND p) && PyData.canLayAll0 []) = true := by
    simpa only [List.map_cons, List.map_nil, PyData.canLayAll0] using l
  show (PyData.canLay0 (pairND p) && decide (PyData.depth (pairND p) ≤ 64)) = true
  rw [(Bool.and_eq_true_iff.mp l).1, Bool.true_and]
  exact decide_eq_true (by omega)
theorem shaped_pairs (ps : List (Nat × Nat)) : SeqAt.shaped (.tuple (ps.map pairND)) = true := by
  have d := pairs_depth ps
  have l := pairs_lay ps
  show (PyData.canLay0 (.tuple (ps.map pairND)) && decide (PyData.depth (.tuple (ps.map pairND)) ≤ 64)) = true
  rw [Bool.and_eq_true]
  refine ⟨by simp only [PyData.canLay0]; exact l, decide_eq_true ?_⟩
  simp only [PyData.depth]
  omega
theorem eqv_pair (p q : Nat × Nat) : PyData.eqv (pairND p) (pairND q) = decide (p = q) := by
  show PyData.eqv (.tuple [.int (p.1 : Nat), .int (p.2 : Nat)]) (.tuple [.int (q.1 : Nat), .int (q.2 : Nat)]) = _
  obtain ⟨a, b⟩ := p
  obtain ⟨c, d⟩ := q
  simp only [PyData.eqv, PyData.eqvAll]
  by_cases h1 : a = c
  · subst h1
    by_cases h2 : b = d
    · subst h2
      simp
    · have : ¬ (b : Int) = d := fun z => h2 (by omega)
      simp [h2, this]
  · have : ¬ (a : Int) = c := fun z => h1 (by omega)
    simp [h1, this]
theorem any_pairs (ps : List (Nat × Nat)) (p : Nat × Nat) : ((ps.map pairND).any fun z => PyData.eqv z (pairND p)) = decide (p ∈ ps) := by
  rw [List.any_map]
  induction ps with
  | nil => simp
  | cons q ps ih =>
    rw [List.any_cons, ih]
    show (PyData.eqv (pairND q) (pairND p) || decide (p ∈ ps)) = _
    rw [eqv_pair]
    by_cases h : q = p
    · subst h
      simp
    · have : ¬ p = q := fun z => h z.symm
      simp [h, this]
theorem all_id_true : ∀ {bs : List Bool}, (∀ b ∈ bs, b = true) → bs.all id = true := fun {bs} h => List.all_eq_true.mpr fun b hb => h b hb
theorem block_sk {W : Web} (hw : WebOk W) {L : Fam Str} : ∀ l ∈ blocksOf W.names L, ∀ x ∈ l, PyData.strOk x = true := fun l hl x hx => hw.sk x (btw_names (block_of_mem hl hx).1)
section
variable {P : Program} {w : World} {K : PySem.W.Frag} {σ : L2.St} {H : Hp} {te ta tb : TE}
def oSet (P : Program) (w : World) (n : Nat) : Ob := ⟨fun v H => ∃ a S, v = .ref a ∧ H a = some (SetS P w a S n), fun _ _ _ s ⟨a, S, e, h⟩ => ⟨a, S, e, s _ _ h⟩⟩
theorem ev_set {xs : List Str} (h : Ev te σ H (oL K (xs.map .str))) (nd : xs.Nodup) (hl : xs.length ≤ 1000) : Ev (tCB (rSetS K P w) (tCons te tNil)) σ H (oSet P w xs.length) := ev_cb (eva_cons h eva_nil) fun vs H1 s p Q q => by
  obtain ⟨v, rfl, a, ys, rfl, e, i⟩ := oall1 p
  obtain rfl := i.strs
  exact ⟨a, xs, rfl, SqL.of e, nd, hl, fun p S hp => q _ _ (same_new hp) ⟨p, S, rfl, upd_same⟩⟩
theorem ev_lenSet {n : Nat} (h : Ev te σ H (oSet P w n)) : Ev (tCB (rLenSet P w) (tCons te tNil)) σ H (oI K (.int (n : Nat))) := ev_cb (eva_cons h eva_nil) fun vs H1 s p Q q => by
  obtain ⟨v, rfl, a, S, rfl, e⟩ := oall1 p
  exact ⟨a, S, n, rfl, e, q _ H1 (Same.refl H1) (Im.int _)⟩
theorem ls_dp {v : V} {ds : List PyData} (h : LsAt K H v ds) : Dp K H v (.list ds) := by
  obtain ⟨a, xs, rfl, e, i⟩ := h
  exact .lst (SqL.of e) (ImAll.dp i)
/-- lists of rows beside one another -/
theorem ev_neRows {β : Type} {R : β → Prop} {f : β → List (List Str)} {a : List (List Str)} (ha : Ev ta σ H (oL K (a.map strsD))) (hb : Ev tb σ H (oE R fun b => oL K ((f b).map strsD))) (h1 : ∀ l ∈ a, ∀ x ∈ l, PyData.strOk x = true) (h2 : ∀ b, R b → f b = a) : Ev (tOp (rNeD K) ta tb) σ H (oI K (.bool false)) :=
  ev_op ha hb fun x y H1 s px py Q q => by
    obtain ⟨b, hR, py⟩ := py
    refine ⟨_, _, ls_dp px, ls_dp py, shaped_rowsL h1, shaped_rowsL (by rw [h2 b hR]; exact h1), q _ H1 (Same.refl H1) ?_⟩
    rw [eqv_rowsL, h2 b hR, decide_eq_true rfl]
    exact Im.bl _
theorem ev_eqRows {β : Type} {R : β → Prop} {f : β → List (List Str)} {a : List (List Str)} (hb : Ev tb σ H (oE R fun b => oL K ((f b).map strsD))) (ha : Ev ta σ H (oL K (a.map strsD))) (h1 : ∀ l ∈ a, ∀ x ∈ l, PyData.strOk x = true) (h2 : ∀ b, R b → f b = a) : Ev (tOp (rEqD K) tb ta) σ H (oI K (.bool true)) :=
  ev_op hb ha fun y x H1 s py px Q q => by
    obtain ⟨b, hR, py⟩ := py
    refine ⟨_, _, ls_dp py, ls_dp px, shaped_rowsL (by rw [h2 b hR]; exact h1), shaped_rowsL h1, q _ H1 (Same.refl H1) ?_⟩
    rw [eqv_rowsL, h2 b hR, decide_eq_true rfl]
    exact Im.bl _
theorem ev_inRowsT {b : List Str} {ls : List (List Str)} (ha : Ev ta σ H (oI K (strsD b))) (hb : Ev tb σ H (oI K (.tuple (ls.map strsD)))) (h1 : ∀ x ∈ b, PyData.strOk x = true) (h2 : ∀ l ∈ ls, ∀ x ∈ l, PyData.strOk x = true) : Ev (tOp (rInDT K) ta tb) σ H (oI K (.bool (decide (b ∈ ls)))) :=
  ev_op ha hb fun u v H1 s p1 p2 Q q => by
    refine ⟨strsD b, ls.map strsD, Im.dp p1, Im.dp p2, shaped_strs h1, shaped_rowsT h2, q _ H1 (Same.refl H1) ?_⟩
    rw [any_rows]
    exact Im.bl _
theorem ev_inPairs {p : Nat × Nat} {ps : List (Nat × Nat)} (ha : Ev ta σ H (oI K (pairND p))) (hb : Ev tb σ H (oI K (.tuple (ps.map pairND)))) : Ev (tOp (rInDT K) ta tb) σ H (oI K (.bool (decide (p ∈ ps)))) :=
  ev_op ha hb fun u v H1 s p1 p2 Q q => by
    refine ⟨pairND p, ps.map pairND, Im.dp p1, Im.dp p2, shaped_pair p, shaped_pairs ps, q _ H1 (Same.refl H1) ?_⟩
    rw [any_pairs]
    exact Im.bl _
end
theorem flat_upto {α : Type} (bs : List (List α)) (i : Nat) {b : List α} (h : bs[i]? = some b) : (bs.take (i + 1)).flatten = (bs.take i).flatten ++ b := by
  rw [List.take_add_one, h, List.flatten_append]
  show _ ++ ([b] : List (List α)).flatten = _
  rw [List.flatten_singleton]
section
variable {P : Program} {w : World} {K : PySem.W.Frag} {mg : Str → Option Value} {base : Heap}
noncomputable def sp__law_shape_right (K : PySem.W.Frag) : Sp := spD (α := Web × Fr × List (List Str)) (fun a => [oI K (webD a.1), oI K (shapeD (shapeOf a.1.names (fam a.1 a.2.1.1 a.2.1.2))), oL K (a.2.2.map strsD)]) (fun a => WebOk a.1 ∧ CutsAt a.1 a.2.1.1 a.2.1.2 a.2.2 ∧ ∀ l ∈ a.2.2, ∀ x ∈ l, PyData.strOk x = true) fun _ => oI K (.bool true)
theorem at__law_shape_right (T : Tx K mg) : At P w K mg base 2 "_law_shape_right" ["_law_web_here", "_law_shape", "_law_cuts"] (sp__law_shape_right K) := by
  refine at_of T.d__law_shape_right sc__law_shape_right (fun _ => rfl) fun f cdv A outer s H vs Q E a hr hp ha q => ?_
  refine ⟨_, (pss_cons (ps_asg (pv 1) (show PG _ _ (gTup K 3 _) from pg_tup rfl (pgs_cons (pg_name (i := 3) sc__law_shape_right.nd rfl (Or.inl rfl)) (pgs_cons (pg_name (i := 4) sc__law_shape_right.nd rfl (Or.inl rfl)) (pgs_cons (pg_name (i := 5) sc__law_shape_right.nd rfl (Or.inr rfl)) pgs_nil)))))
 (pss_cons (ps_set (i := 6) sc__law_shape_right.nd rfl (Or.inl rfl) (pe_callTy (r := rListOf K) cr_listOf (by rfl) T.m_list (by decide +kernel) (pa_cons (pv 3) pa_nil)))
 (pss_cons (ps_for PassesOwn.never rfl (show PI _ _ _ (iTup K _) from pi_tup (pv 4)) (pg_name (i := 7) sc__law_shape_right.nd rfl (Or.inl rfl)) (pss_one (ps_expr (pe_bm PySem.F.plainAttrs_list PySem.F.slot_list_extend PySem.F.type_list_extend mt_extendT (pv 6) (pa_cons (pv 7) pa_nil)))))
 (pss_cons (ps_if (PW.pt (pw_or (pt_cmpR op_ne (pe_callB cr_lenSet (by rfl) T.m_len (by decide +kernel) (pa_cons (pe_callTy (cr_set rfl) (by rfl) T.m_set (by decide +kernel) (pa_cons (pv 6) pa_nil)) pa_nil)) (pe_callB (r := rLenS K) cr_lenS (by rfl) T.m_len (by decide +kernel) (pa_cons (pv 6) pa_nil)) (nomark _)) (pw_or (pt_cmpR (r := rNeD K) (op_neD hr.units) (pe_callTy (r := rListOf K) cr_listOf (by rfl) T.m_list (by decide +kernel) (pa_cons (pv 4) pa_nil)) (pe_callB (r := rSortR K) (cr_sortR (units65 hr)) (by rfl) T.m_sorted (by decide +kernel) (pa_cons (pv 4) pa_nil)) (nomark _)) (pw_or1 (pt_cmpR (r := rInDT K) (op_inDT (units65 hr)) (pe_tup pa_nil) (pv 4) (by rfl)))))) (pss_one (ps_ret pe_bl)) pss_nil)
 (pss_cons (ps_for PassesOwn.never rfl (show PI _ _ _ (iTup K _) from pi_tup (pv 5)) (show PG _ _ (gTup K 2 _) from pg_tup rfl (pgs_cons (pg_name (i := 8) sc__law_shape_right.nd rfl (Or.inr rfl)) (pgs_cons (pg_name (i := 9) sc__law_shape_right.nd rfl (Or.inr rfl)) pgs_nil))) (pss_one (ps_if (pt_not (pt_val (pe_callB (r := rAll K) (cr_all rfl) (by rfl) T.m_all (by decide +kernel) (pa_cons (pe_lc rfl sc__law_shape_right.nd (show PI _ _ _ (iTup K _) from pi_tup (pv 5)) (blkOk_by (N := N__law_shape_right) (sc := defScope s__law_shape_right) (own := [("_law_here", 10), ("_law_k", 11)]) (by decide +kernel)) (fun _ _ _ _ _ => (show PG _ _ (gTup K 2 _) from pg_tup rfl (pgs_cons (pg_name (i := 10) sc__law_shape_right.nd rfl (Or.inl rfl)) (pgs_cons (pg_name (i := 11) sc__law_shape_right.nd rfl (Or.inl rfl)) pgs_nil)))) (fun _ _ _ _ _ => (pts_one (pt_cmpR op_eq (pv 10) (pv 9) (nomark _)))) (fun _ _ _ _ _ => (pe_or (pe_cmpR (r := rInDT K) (op_inDT (units65 hr)) (pe_tup (pa_cons (pv 8) (pa_cons (pv 11) pa_nil))) (pv 5) (by rfl)) (pe_one (pe_cmpR op_eq (pv 8) (pv 11) (nomark _)))))) pa_nil)))) (pss_one (ps_ret pe_bl)) pss_nil)))
 (pss_one (ps_ret (pe_cmpR (r := rEqD K) (op_eqD hr.units) (pe_at (at__law_by_shape T) (hr.mono (by decide)) (by rfl) (pa_cons (pv 1) pa_nil)) (pv 2) (nomark _))))))))), ?_⟩
  walk_at "nk"
  obtain ⟨v1, v2, v3, rfl, h1, h2, h3⟩ := oall3 ha
  obtain ⟨W, L, ls⟩ := a
  have hw : WebOk W := hp.1
  have hc : CutsAt W L.1 L.2 ls := hp.2.1
  have hsk : ∀ l ∈ ls, ∀ x ∈ l, PyData.strOk x = true := hp.2.2
  let fm := fam W L.1 L.2
  let sh := shapeOf W.names fm
  have sok : ShOk sh := sh_ok hw fm
  have lb := sok.lb
  have la := sok.la
  have h2 : Im K H v2 (.tuple [strsD sh.low, .tuple (sh.blocks.map strsD), .tuple (sh.arrows.map pairND)]) := h2
  have h3 : LsAt K H v3 (ls.map strsD) := h3
  have nd : (sh.low ++ sh.blocks.flatten).Nodup := every_nodup (Ris.nodup sto_str hw.nm.ris)
  have lev : (sh.low ++ sh.blocks.flatten).length ≤ 8 := Nat.le_trans (nodup_len _ W.names nd fun x hx => by
    rcases List.mem_append.mp hx with z | z
    · exact (List.mem_filter.mp z).1
    · obtain ⟨b, hb, hx⟩ := List.mem_flatten.mp z
      exact btw_names (block_of_mem hb hx).1) (names_len hw)
  have bsk : ∀ l ∈ sh.blocks, ∀ x ∈ l, PyData.strOk x = true := block_sk hw
  refine q_asg (ev_varI (K := K) (i := 1) rfl h2) fun u0 H1 s1 p1 => ?_
  refine g_names3 (d1 := strsD sh.low) (d2 := .tuple (sh.blocks.map strsD)) (d3 := .tuple (sh.arrows.map pairND)) p1 fun w1 w2 w3 q1 q2 q3 => ?_
  have BL : ∀ {σ : L2.St} {H9 : Hp}, σ[4]? = some (some w2) → TupKeep H1 H9 → Ev (tVar 4) σ H9 (oI K (.tuple (sh.blocks.map strsD))) := fun e s => ev_varI e (q2.keep s)
  have AR : ∀ {σ : L2.St} {H9 : Hp}, σ[5]? = some (some w3) → TupKeep H1 H9 → Ev (tVar 5) σ H9 (oI K (.tuple (sh.arrows.map pairND))) := fun e s => ev_varI e (q3.keep s)
  refine q_set (ev_listQ (K := K) (ds := sh.low.map .str) (ev_varI (d := strsD sh.low) (i := 3) rfl q1).qT) fun un H2 s2 p2 => ?_
  obtain ⟨ln, xn, rfl, nn, en, in_⟩ := p2
  obtain rfl := in_.strs
  have nn0 : H ln = none := s1.free nn
  refine q_for (evi_tup (BL rfl (tk_same s2))) fun H3 s3 => ?_
  refine ⟨fun i σ' H' => ∃ x7, σ' = [some v1, some v2, some v3, some w1, some w2, some w3, some (.ref ln), x7, none, none, none, none] ∧ Same H H' ∧ TupKeep H1 H' ∧ TupKeep H3 H' ∧ H' ln = some (.lst ((sh.low ++ (sh.blocks.take i).flatten).map V.str)),
    ⟨none, rfl, (s1.trans s2).trans s3, tk_same (s2.trans s3), TupKeep.refl _, ?_⟩, fun i σ' H' ⟨_, _, _, _, k, _⟩ => k, ?_, ?_⟩
  · show H3 ln = some (.lst ((sh.low ++ []).map V.str))
    rw [List.append_nil]
    exact s3 _ _ en
  · rintro i dd y σ' H' H'' hd ⟨x7, rfl, sH, tk1, tk, el⟩ smm hy
    obtain ⟨blk, hb, rfl, hbm⟩ := get_map hd
    have e0 := smm _ _ el
    have lx : (sh.low ++ (sh.blocks.take i).flatten).length + blk.length ≤ 8 := by
      have h2 : sh.blocks.flatten = (sh.blocks.take (i + 1)).flatten ++ (sh.blocks.drop (i + 1)).flatten := by
        rw [← List.flatten_append, List.take_append_drop]
      have h1 := lev
      rw [h2, flat_upto sh.blocks i hb] at h1
      simp only [List.length_append] at h1 ⊢
      omega
    refine s_extT e0 (ev_varV (i := 6) rfl) (ds := blk.map .str) (ev_varI (d := strsD blk) (i := 7) rfl hy) (by rw [List.length_map, List.length_map]; omega) fun zs' H8 s8 i8 => ?_
    obtain rfl := i8.strs
    have tkb := (tk_same (smm.trans s8)).trans (tk_upd (o' := .lst ((sh.low ++ (sh.blocks.take i).flatten).map V.str ++ blk.map V.str)) (s8 _ _ e0) trivial)
    refine ⟨_, rfl, same_mut ((sH.trans smm).trans s8) nn0, tk1.trans tkb, tk.trans tkb, ?_⟩
    rw [upd_same, flat_upto sh.blocks i hb, ← List.append_assoc, List.map_append (l₂ := blk)]
  · rintro σ' H' ⟨x7, rfl, sH, tk1, tk, el⟩
    rw [List.length_map, List.take_length] at el
    let ev := sh.low ++ sh.blocks.flatten
    have EV : ∀ {σ : L2.St} {H9 : Hp}, σ[6]? = some (some (.ref ln)) → Same H' H9 → Ev (tVar 6) σ H9 (oL K (ev.map .str)) := fun e s => ev_varL e (s _ _ el) (ImAll.of_strs _)
    refine q_skip (evb_is (evb_or (evb_test (ev_neI (K := K) (ev_lenSet (ev_set (EV rfl (Same.refl _)) nd (by show (sh.low ++ sh.blocks.flatten).length ≤ 1000; omega))) (ev_lenL (EV rfl (Same.refl _))))) fun _ => evb_or (evb_test (ev_neRows (K := K) (a := sh.blocks) (Ev.ls (ev_listQ (BL rfl tk1).qT)) ((ev_sortR (K := K) (cs := sh.blocks) (BL rfl tk1).qT (.inl fun c hc => ?_)).imp fun v H5 s5 ⟨ds, hR, p5⟩ => ⟨ds, hR, LsNew.ls p5⟩) bsk fun ds hR => ?_)) fun _ => evb_test (ev_inRowsT (K := K) (b := []) (ev_tup0) (BL rfl tk1) (fun x h => absurd h (by simp)) bsk)) ?_) fun H4 s4 => ?_
    · rintro rfl
      exact blocks_nonil hc
    · exact ris_eq sto_tup (ris_of sto_tup hR.2 (hR.1.nodup_iff.mpr blocks_nodup)) (blocks_ris hw.nm.ris fm) fun c => hR.1.mem_iff
    · rw [List.length_map, decide_eq_true rfl, decide_eq_false (p := [] ∈ sh.blocks) blocks_nonil]
      rfl
    have tk4 := tk1.trans (tk_same s4)
    refine q_for (evi_tup (AR rfl tk4)) fun H5 s5 => ?_
    refine ⟨fun i σ' H' => ∃ x8 x9, σ' = [some v1, some v2, some v3, some w1, some w2, some w3, some (.ref ln), x7, x8, x9, none, none] ∧ Same H H' ∧ TupKeep H1 H' ∧ TupKeep H5 H',
      ⟨none, none, rfl, (sH.trans s4).trans s5, tk4.trans (tk_same s5), TupKeep.refl _⟩, fun i σ' H' ⟨_, _, _, _, _, k⟩ => k, ?_, ?_⟩
    · rintro i dd y σ' H' H'' hd ⟨x8, x9, rfl, sH, tk1, tk⟩ smm hy
      obtain ⟨⟨a, b⟩, hb, rfl, hbm⟩ := get_map hd
      refine g_names2 (d1 := .int (a : Nat)) (d2 := .int (b : Nat)) hy fun u1 u2 k1 k2 => ?_
      have tk6 := tk1.trans (tk_same smm)
      refine s_when (b := false) (evb_is (evb_not (evb_B (ev_all (K := K) (bs := (sh.arrows.filter fun p => decide (p.1 = b)).map fun p => decide ((a, p.2) ∈ sh.arrows) || decide (a = p.2)) (Ev.ls (ev_lcm sh.arrows pairND (fun p => decide (p.1 = b)) (fun p => .bool (decide ((a, p.2) ∈ sh.arrows) || decide (a = p.2)))
        (evi_tup (AR rfl tk6)) (by omega) (fun p v2 H7 hpm s7 p7 => g_names2 (d1 := .int (p.1 : Nat)) (d2 := .int (p.2 : Nat)) p7 fun u4 u5 k4 k5 => ⟨rfl, Same.refl _, ?_, fun _ => ?_⟩) (gm_tup (gm_cons gm_name (gm_cons gm_name gm_nil))) (by rw [List.map_map]; rfl)))))) ?_) (fun hb => nomatch hb) fun _ H7 s7 => ⟨_, _, rfl, (sH.trans smm).trans s7, tk6.trans (tk_same s7), (tk.trans (tk_same (smm.trans s7)))⟩
      · refine evb_is (evb_test (ev_eqI (K := K) (ev_varI (i := 10) rfl k4) (ev_varI (i := 9) rfl (Im.same s7 k2)))) ?_
        exact decide_eq_decide.mpr ⟨fun z => by omega, fun z => by omega⟩
      · refine ev_orV (ev_inPairs (p := (a, p.2)) (ev_tup2 (ev_varI (i := 8) rfl (Im.same s7 k1)) (ev_varI (i := 11) rfl k5)) (AR rfl (tk6.trans (tk_same s7)))) fun _ => ev_isD (ev_eqI (K := K) (ev_varI (i := 8) rfl (Im.same s7 k1)) (ev_varI (i := 11) rfl k5)) ?_
        exact congrArg PyData.bool (decide_eq_decide.mpr ⟨fun z => by omega, fun z => by omega⟩)
      · rw [all_id_true]
        · rfl
        · intro z hz
          obtain ⟨p, hp, rfl⟩ := List.mem_map.mp hz
          obtain ⟨hp1, hp2⟩ := List.mem_filter.mp hp
          obtain ⟨b', k⟩ := p
          obtain rfl : b' = b := of_decide_eq_true hp2
          rcases arrows_trans (names := W.names) (L := fm) hbm hp1 with h | h
          · rw [decide_eq_true (p := (a, k) ∈ sh.arrows) h]
            rfl
          · rw [decide_eq_true (p := a = k) h, Bool.or_true]
    · rintro σ' H' ⟨x8, x9, rfl, sH, tk1, tk⟩
      have h2' : Im K H' v2 (shapeD sh) := (Im.same sH h2)
      exact s_ret (ev_eqRows (K := K) (ev__law_by_shape (W := W) (L := L) (ev_varI (i := 1) rfl h2') hw) (ev_varLs (i := 2) rfl (h3.same sH)) hsk fun b hb => hb.uniq hc) fun v H9 s9 p9 => q v H9 (sH.trans s9) p9
theorem ev__law_shape_right {σ : L2.St} {H : Hp} {ta tb tc : TE} {W : Web} {L : Fr} {ls : List (List Str)} (h1 : Ev ta σ H (oI K (webD W))) (h2 : Ev tb σ H (oI K (shapeD (shapeOf W.names (fam W L.1 L.2))))) (h3 : Ev tc σ H (oL K (ls.map strsD))) (hw : WebOk W) (hc : CutsAt W L.1 L.2 ls) (hs : ∀ l ∈ ls, ∀ x ∈ l, PyData.strOk x = true) :
    Ev (tCall (sp__law_shape_right K) [] E0 (tCons ta (tCons tb (tCons tc tNil)))) σ H (oI K (.bool true)) := ev_call (W, L, ls) (eva_cons h1 (eva_cons h2 (eva_cons h3 eva_nil))) ⟨hw, hc, hs⟩
end
end Cut
end
section
namespace Cut
open PySem PySem.Spec PyProof.Rows L2
local macro_rules | `(tactic| walk_at "nk") => `(tactic| first | dsimp only [cxOf, Cx.nox, Cx.wish, Cx.blk] | skip)
local macro_rules | `(tactic| walk_at "im") => `(tactic| first
  | assumption
  | exact Im.int _ | exact Im.str _ | exact Im.bl _ | exact Im.non
  | (refine Im.same (by assumption) ?_; walk_at "im"))
local macro_rules | `(tactic| walk_at "side") => `(tactic| first | assumption | rfl | omega)
local macro_rules | `(tactic| walk_at "ev") => `(tactic| first
  | (with_reducible exact ev_int) | (with_reducible exact ev_str) | (with_reducible exact ev_bl) | (with_reducible exact ev_non)
  | ((with_reducible apply ev_varI); rfl; walk_at "im")
  | ((with_reducible apply ev_ixT); walk_at "ev"; walk_at "ev"; walk_at "side")
  | ((with_reducible apply ev_add); walk_at "ev"; walk_at "ev")
  | ((with_reducible apply ev_sub); walk_at "ev"; walk_at "ev")
  | ((with_reducible apply ev_mul); walk_at "ev"; walk_at "ev"; walk_at "side")
  | ((with_reducible apply ev_div); walk_at "ev"; walk_at "ev"; walk_at "side")
  | ((with_reducible apply ev_mod); walk_at "ev"; walk_at "ev"; walk_at "side")
  | ((with_reducible apply ev_eqI); walk_at "ev"; walk_at "ev")
  | ((with_reducible apply ev_neI); walk_at "ev"; walk_at "ev")
  | ((with_reducible apply ev_eqS); walk_at "ev"; walk_at "ev")
  | ((with_reducible apply ev_neS); walk_at "ev"; walk_at "ev")
  | ((with_reducible apply ev_cmp); walk_at "ev"; walk_at "ev")
  | ((with_reducible apply ev_tup1); walk_at "ev")
  | ((with_reducible apply ev_tup2); walk_at "ev"; walk_at "ev")
  | ((with_reducible apply ev_tup3); walk_at "ev"; walk_at "ev"; walk_at "ev")
  | ((with_reducible apply ev_tup4); walk_at "ev"; walk_at "ev"; walk_at "ev"; walk_at "ev")
  | ((with_reducible apply ev_tup5); walk_at "ev"; walk_at "ev"; walk_at "ev"; walk_at "ev"; walk_at "ev")
  | ((with_reducible apply ev_lenT); walk_at "ev")
  | ((with_reducible apply ev_abs); walk_at "ev")
  | ((with_reducible apply ev_tupleL); walk_at "ev")
  | ((with_reducible apply ev_notV); walk_at "ev")
  | assumption)

/-! greater ties -/
theorem place_one {W : Web} (hn : W.names.Nodup) {u z : Place} (hu : u ∈ W.places) (hz : z ∈ W.places) (e : u.n = z.n) : u = z := by
  obtain ⟨i, hi⟩ := List.getElem?_of_mem hu
  obtain ⟨j, hj⟩ := List.getElem?_of_mem hz
  have h1 : W.names[i]? = some z.n := by
    show (W.places.map (·.n))[i]? = _
    rw [List.getElem?_map, hi, ← e]
    rfl
  have h2 : W.names[j]? = some z.n := by
    show (W.places.map (·.n))[j]? = _
    rw [List.getElem?_map, hj]
    rfl
  obtain rfl := nodup_get hn h1 h2
  rw [hi] at hj
  exact Option.some.inj hj
theorem greater_web {W : Web} (hw : WebOk W) {z : Place} (hz : z ∈ W.places) (wh : Bool) (hb : if wh = true then z.c < 999 else z.a < 99) : WebOk (greater W wh z.n) := by
  have nd := Ris.nodup sto_str hw.nm.ris
  refine ⟨greater_ok hw.nm wh z.n, ?_, hw.nt, hw.tp, fun u hu => ?_, hw.ti, fun x hx => ?_⟩
  · show (W.places.map (greatP wh z.n)).length ≤ 8
    rw [List.length_map]
    exact hw.np
  · obtain ⟨y, hy, rfl⟩ := List.mem_map.mp hu
    have b := hw.pl y hy
    show (0 ≤ (greatP wh z.n y).a ∧ _) ∧ _
    unfold greatP
    by_cases e : y.n = z.n
    · obtain rfl := place_one nd hy hz e
      cases wh with
      | true =>
        have hb : y.c < 999 := hb
        rw [if_pos e, if_pos rfl]
        refine ⟨b.1, b.2.1, b.2.2.1, ?_, ?_⟩
        · show W.top * y.d ≤ y.c + 1
          have := b.2.2.2.1
          omega
        · show y.c + 1 ≤ 100000
          omega
      | false =>
        have hb : y.a < 99 := hb
        rw [if_pos e, if_neg (by decide)]
        refine ⟨⟨?_, ?_⟩, b.2.1, b.2.2.1, b.2.2.2⟩
        · show 0 ≤ y.a + 1
          omega
        · show y.a + 1 ≤ 10000
          omega
    · rw [if_neg e]
      exact b
  · rw [greater_names] at hx
    exact hw.sk x hx
theorem cuts_sk {W : Web} (hw : WebOk W) {p q : Int} {ls : List (List Str)} (h : CutsAt W p q ls) : ∀ l ∈ ls, ∀ x ∈ l, PyData.strOk x = true := fun l hl x hx => by
  obtain ⟨som, _, rfl⟩ := List.mem_map.mp (h.perm.mem_iff.mp hl)
  exact hw.sk x (List.mem_filter.mp hx).1
theorem cuts_few {W : Web} (hw : WebOk W) {p q : Int} {ls : List (List Str)} (h : CutsAt W p q ls) : ls.length ≤ 256 := by
  rw [h.len]
  refine Nat.le_trans (List.length_filter_le _ _) ?_
  rw [subsN_len]
  exact Nat.le_trans (Nat.pow_le_pow_right (by decide) (sh_ok hw (fam W p q)).lb) (by decide)
theorem worth_stays {W : Web} {p q val val' : Int} (ok : NamesOk W) (hq : 0 < q) {v : Str} (hv : v ∈ W.names) {wh : Bool} {S0 : Str → Bool} (h0 : fam W p q S0) (hs : S0 v = !wh) (h : ValR W p q val) (k : ValR (greater W wh v) p q val') : val' = val := by
  obtain ⟨one, two⟩ := greater_fam ok hq hv h0 hs (which := wh)
  have h1 := (one S0).mpr ⟨h0, hs⟩
  rw [← k.val S0 h1, two S0 h1, h.val S0 h0]
theorem cuts_stay {W : Web} {p q val val' : Int} (ok : NamesOk W) (hq : 0 < q) {v : Str} (hv : v ∈ W.names) {wh : Bool} {S0 : Str → Bool} (h0 : fam W p q S0) (hs : S0 v = !wh) (h : ValR W p q val) (k : ValR (greater W wh v) p q val') {ls ms : List (List Str)} (hc : CutsAt W p q ls) (kc : CutsAt (greater W wh v) p q ms) : ms = ls.filter fun c => if wh then !decide (v ∈ c) else decide (v ∈ c) := by
  obtain ⟨st, en, wy, fo⟩ := h.fo
  obtain ⟨st', en', wy', fo'⟩ := k.fo
  rw [greater_names] at fo'
  rw [cuts_greater ok hq hv h0 hs fo fo' hc kc]
  refine List.filter_congr fun c _ => ?_
  cases wh <;> simp
theorem shaped_fr (x : Fr) : SeqAt.shaped (frD x) = true := by
  show (PyData.canLay0 (.tuple [.int x.1, .int x.2]) && decide (PyData.depth (.tuple [.int x.1, .int x.2]) ≤ 64)) = true
  simp [PyData.canLay0, PyData.canLayAll0, PyData.depth, PyData.depthAll]
theorem eqv_fr (x : Fr) : PyData.eqv (frD x) (frD x) = true := by
  show PyData.eqv (.tuple [.int x.1, .int x.2]) (.tuple [.int x.1, .int x.2]) = true
  simp [PyData.eqv, PyData.eqvAll]
/-- a test that tells more -/
def EvBP (F : Prop) (tt : TT) (σ : L2.St) (H : Hp) (b : Bool) : Prop := ∀ H1, Same H H1 → ∀ Q : Bool → Hp → Prop, (∀ H2, Same H1 H2 → F → Q b H2) → tt σ H1 Q
section
variable {K : PySem.W.Frag} {σ : L2.St} {H : Hp} {te ta tb : TE} {t u : TT} {tu tz : TS} {D : Ends}
theorem evp_or {F : Prop} {b : Bool} (h1 : EvBP F t σ H false) (h2 : F → EvB u σ H b) : EvB (tOr t u) σ H b := fun H1 s Q q => h1 H1 s _ fun H2 s2 f => h2 f H2 (s.trans s2) _ fun H3 s3 => q H3 (s2.trans s3)
theorem evp_neFr {β : Type} {R : β → Prop} {f : β → Fr} {x : Fr} (h : Ev ta σ H (oE R fun b => oI K (frD (f b)))) (k : Ev tb σ H (oI K (frD x))) (hx : ∀ b, R b → f b = x) : EvBP (∃ b, R b) (tTest (tOp (rNeD K) ta tb)) σ H false := fun H1 s Q q => h H1 s _ fun v H2 s2 ⟨b, hb, p2⟩ => k H2 (s.trans s2) _ fun y H3 s3 p3 => by
  have p2 : Im K H2 v (frD (f b)) := p2
  rw [hx b hb] at p2
  refine ⟨frD x, frD x, Im.dp (Im.same s3 p2), Im.dp p3, shaped_fr x, shaped_fr x, false, ?_, q H3 (s2.trans s3) ⟨b, hb⟩⟩
  rw [eqv_fr]
  rfl
theorem ev_neRows2 {β : Type} {R : β → Prop} {f : β → List (List Str)} {a : List (List Str)} (hb : Ev tb σ H (oE R fun b => oL K ((f b).map strsD))) (ha : Ev ta σ H (oL K (a.map strsD))) (h1 : ∀ l ∈ a, ∀ x ∈ l, PyData.strOk x = true) (h2 : ∀ b, R b → f b = a) : Ev (tOp (rNeD K) tb ta) σ H (oI K (.bool false)) :=
  ev_op hb ha fun y x H1 s py px Q q => by
    obtain ⟨b, hR, py⟩ := py
    refine ⟨_, _, ls_dp py, ls_dp px, shaped_rowsL (by rw [h2 b hR]; exact h1), shaped_rowsL h1, q _ H1 (Same.refl H1) ?_⟩
    rw [eqv_rowsL, h2 b hR, decide_eq_true rfl]
    exact Im.bl _
theorem q_whenI {b : Bool} (Inv : L2.St → Hp → Prop) (h : EvB t σ H b) (h1 : b = true → ∀ D' H1, (∀ σ1 H1, Inv σ1 H1 → D'.nx σ1 H1) → Same H H1 → tu D' σ H1) (h2 : b = false → ∀ H1, Same H H1 → Inv σ H1) (k : ∀ σ1 H1, Inv σ1 H1 → tz D σ1 H1) : tSeq (tIfS t tu tNext) tz D σ H :=
  q_when h (fun hb H1 s => h1 hb _ H1 k s) fun hb H1 s => k _ _ (h2 hb H1 s)
theorem s_whenI {b : Bool} (Inv : L2.St → Hp → Prop) (h : EvB t σ H b) (h1 : b = true → ∀ D' H1, (∀ σ1 H1, Inv σ1 H1 → D'.nx σ1 H1) → Same H H1 → tu D' σ H1) (h2 : b = false → ∀ H1, Same H H1 → Inv σ H1) (k : ∀ σ1 H1, Inv σ1 H1 → D.nx σ1 H1) : tIfS t tu tNext D σ H :=
  s_when h (fun hb H1 s => h1 hb _ H1 k s) fun hb H1 s => k _ _ (h2 hb H1 s)
/-- one greater tie tried -/
theorem greater_tried {tret : TS} {v1 v2 v3 v4 v5 u : V} {x7 x8 x9 x10 x11 x12 : Option V} {W : Web} {L : Fr} {val : Int} {ls : List (List Str)} {z : Place} (wh : Bool) {i : Int} (hi : i = if wh = true then 1 else 0)
    (hw : WebOk W) (hl : PrOk W L) (hv : ValR W L.1 L.2 val) (hc : CutsAt W L.1 L.2 ls) (hz : z ∈ W.places) (hb : if wh = true then z.c < 999 else z.a < 99) {S0 : Str → Bool} (h0 : fam W L.1 L.2 S0) (hs : S0 z.n = !wh)
    (h1 : Im K H v1 (webD W)) (h2 : Im K H v2 (frD L)) (h3 : LsAt K H v3 (ls.map strsD)) (h4 : Im K H u (frD (red val L.2))) (k : ∀ y11 y12 H1, Same H H1 → D.nx [some v1, some v2, some v3, some u, some v4, some v5, some (.str z.n), x7, x8, x9, x10, y11, y12, none] H1) :
    tSeq (tAsg (tCall (sp__law_greater K) [] E0 (tCons (tVar 0) (tCons (tVar 6) (tCons (tC (.int i)) tNil)))) (gName 11)) (tSeq (tAsg (tLc (iList K (tVar 2)) (gName 13) (tTest (tOp (rIn K wh) (tVar 6) (tVar 13))) (tVar 13) [13]) (gName 12))
      (tIfS (tOr (tTest (tOp (rNeD K) (tCall (sp_least_worth K) [] E0 (tCons (tVar 11) (tCons (tVar 1) tNil))) (tVar 3))) (tTest (tOp (rNeD K) (tCall (sp_cuts_at K) [] E0 (tCons (tVar 11) (tCons (tVar 1) tNil))) (tVar 12)))) tret tNext)) D [some v1, some v2, some v3, some u, some v4, some v5, some (.str z.n), x7, x8, x9, x10, x11, x12, none] H := by
  have hw' := greater_web hw hz wh hb
  have hl' : PrOk (greater W wh z.n) L := ⟨hl.can, hl.lo, hl.hi, hl.sm⟩
  have hq : 0 < L.2 := hl.can.1
  have hn : z.n ∈ W.names := List.mem_map.mpr ⟨z, hz, rfl⟩
  have few := cuts_few hw hc
  refine q_set (ev__law_greater (K := K) (W := W) (x := z.n) wh hi (ev_varI (i := 0) rfl h1) (ev_varI (i := 6) rfl (Im.str _)) ev_int (Nat.le_trans hw.np (by decide))) fun u11 H1 s1 p1 => ?_
  have p1 : Im K H1 u11 (webD (greater W wh z.n)) := p1
  refine q_set (ev_lcmL (K := K) ls strsD (fun c => if wh then !decide (z.n ∈ c) else decide (z.n ∈ c)) strsD (evi_list (ev_varLs (i := 2) rfl (h3.same s1))) (by omega) (fun c x H3 hc s3 p3 => ⟨rfl, Same.refl _, evb_test (ev_inS (K := K) (neg := wh) (ev_varI (i := 6) rfl (Im.str _)) (ev_varI (i := 13) rfl p3).qT), fun _ => ev_varI (i := 13) rfl p3⟩) gm_name rfl) fun u12 H2 s2 p2 => ?_
  have p2 := LsNew.ls p2
  have s12 := s1.trans s2
  refine s_when (b := false) (evp_or (evp_neFr (K := K) (x := red val L.2) (ev_least_worth (W := greater W wh z.n) (ev_varI (i := 11) rfl (Im.same s2 p1)) (ev_varI (i := 1) rfl (Im.same s12 h2)) hw' hl') (ev_varI (i := 3) rfl (Im.same s12 h4)) fun val' hv' => by rw [worth_stays hw.nm hq hn h0 hs hv hv']) fun ⟨val', hv'⟩ => evb_test (ev_neRows2 (K := K) (ev_cuts_at (W := greater W wh z.n) (ev_varI (i := 11) rfl (Im.same s2 p1)) (ev_varI (i := 1) rfl (Im.same s12 h2)) hw' hl') (ev_varLs (i := 12) rfl p2) (fun l hm => cuts_sk hw hc l (List.mem_filter.mp hm).1) fun ms hm => cuts_stay hw.nm hq hn h0 hs hv hv' hc hm)) (fun e => nomatch e) fun _ H3 s3 => k _ _ H3 (s12.trans s3)
end
section
variable {P : Program} {w : World} {K : PySem.W.Frag} {mg : Str → Option Value} {base : Heap}
noncomputable def sp__law_greater_right (K : PySem.W.Frag) : Sp := spD (α := Web × Fr × List (List Str)) (fun a => [oI K (webD a.1), oI K (frD a.2.1), oL K (a.2.2.map strsD)]) (fun a => WebOk a.1 ∧ PrOk a.1 a.2.1 ∧ CutsAt a.1 a.2.1.1 a.2.1.2 a.2.2) fun _ => oI K (.bool true)
theorem at__law_greater_right (T : Tx K mg) : At P w K mg base 11 "_law_greater_right" ["_law_web_here", "_law_price_here", "_law_cuts"] (sp__law_greater_right K) := by
  refine at_of T.d__law_greater_right sc__law_greater_right (fun _ => rfl) fun f cdv A outer s H vs Q E a hr hp ha q => ?_
  refine ⟨_, (pss_cons (ps_set (i := 3) sc__law_greater_right.nd rfl (Or.inl rfl) (pe_at (at_least_worth T) (hr.mono (by decide)) (by rfl) (pa_cons (pv 0) (pa_cons (pv 1) pa_nil))))
 (pss_cons (ps_par (i := 4) (j := 5) rfl sc__law_greater_right.nd rfl rfl (by decide) rfl rfl (pa_cons (pe_at (at_least_cut T) (hr.mono (by decide)) (by rfl) (pa_cons (pv 0) (pa_cons (pv 1) pa_nil))) (pa_cons (pe_at (at_most_cut T) (hr.mono (by decide)) (by rfl) (pa_cons (pv 0) (pa_cons (pv 1) pa_nil))) pa_nil)) rfl)
 (pss_cons (ps_for PassesOwn.never rfl (show PI _ _ _ (iTup K _) from pi_tup (pe_ix (r := rIxT K) ix_tup (pv 0) pe_int (fun _ _ => rfl))) (show PG _ _ (gTup K 5 _) from pg_tup rfl (pgs_cons (pg_name (i := 6) sc__law_greater_right.nd rfl (Or.inr rfl)) (pgs_cons (pg_name (i := 7) sc__law_greater_right.nd rfl (Or.inl rfl)) (pgs_cons (pg_name (i := 8) sc__law_greater_right.nd rfl (Or.inl rfl)) (pgs_cons (pg_name (i := 9) sc__law_greater_right.nd rfl (Or.inl rfl)) (pgs_cons (pg_name (i := 10) sc__law_greater_right.nd rfl (Or.inl rfl)) pgs_nil)))))) (pss_cons (ps_if (PW.pt (pw_and (pt_cmpR (r := rIn K false) op_in_seq (pv 6) (pv 5) (by rfl)) (pw_and1 (pt_cmpR op_lt (pv 7) pe_int (nomark _))))) (pss_cons (ps_set (i := 11) sc__law_greater_right.nd rfl (Or.inl rfl) (pe_at (at__law_greater T) (hr.mono (by decide)) (by rfl) (pa_cons (pv 0) (pa_cons (pv 6) (pa_cons pe_int pa_nil)))))
 (pss_cons (ps_setLc (i := 12) rfl sc__law_greater_right.nd rfl rfl (sw_true rfl rfl rfl (by decide +kernel)) (show PI _ _ _ (iList K _) from pi_list (pv 2)) (blkOk_by (N := N__law_greater_right) (sc := defScope s__law_greater_right) (own := [("_law_cut", 13)]) (by decide +kernel)) (fun _ _ _ _ _ => (pg_name (i := 13) sc__law_greater_right.nd rfl (Or.inl rfl))) (fun _ _ _ _ _ => (pts_one (pt_cmpR (r := rIn K false) op_in_seq (pv 6) (pv 13) (by rfl)))) (fun _ _ _ _ _ => (pv 13)))
 (pss_one (ps_if (PW.pt (pw_or (pt_cmpR (r := rNeD K) (op_neD hr.units) (pe_at (at_least_worth T) (hr.mono (by decide)) (by rfl) (pa_cons (pv 11) (pa_cons (pv 1) pa_nil))) (pv 3) (nomark _)) (pw_or1 (pt_cmpR (r := rNeD K) (op_neD hr.units) (pe_at (at_cuts_at T) (hr.mono (by decide)) (by rfl) (pa_cons (pv 11) (pa_cons (pv 1) pa_nil))) (pv 12) (nomark _))))) (pss_one (ps_ret pe_bl)) pss_nil)))) pss_nil)
 (pss_one (ps_if (PW.pt (pw_and (pt_cmpR (r := rIn K true) op_notIn_seq (pv 6) (pv 4) (by rfl)) (pw_and1 (pt_cmpR op_lt (pv 9) pe_int (nomark _))))) (pss_cons (ps_set (i := 11) sc__law_greater_right.nd rfl (Or.inl rfl) (pe_at (at__law_greater T) (hr.mono (by decide)) (by rfl) (pa_cons (pv 0) (pa_cons (pv 6) (pa_cons pe_int pa_nil)))))
 (pss_cons (ps_setLc (i := 12) rfl sc__law_greater_right.nd rfl rfl (sw_true rfl rfl rfl (by decide +kernel)) (show PI _ _ _ (iList K _) from pi_list (pv 2)) (blkOk_by (N := N__law_greater_right) (sc := defScope s__law_greater_right) (own := [("_law_cut", 13)]) (by decide +kernel)) (fun _ _ _ _ _ => (pg_name (i := 13) sc__law_greater_right.nd rfl (Or.inl rfl))) (fun _ _ _ _ _ => (pts_one (pt_cmpR (r := rIn K true) op_notIn_seq (pv 6) (pv 13) (by rfl)))) (fun _ _ _ _ _ => (pv 13)))
 (pss_one (ps_if (PW.pt (pw_or (pt_cmpR (r := rNeD K) (op_neD hr.units) (pe_at (at_least_worth T) (hr.mono (by decide)) (by rfl) (pa_cons (pv 11) (pa_cons (pv 1) pa_nil))) (pv 3) (nomark _)) (pw_or1 (pt_cmpR (r := rNeD K) (op_neD hr.units) (pe_at (at_cuts_at T) (hr.mono (by decide)) (by rfl) (pa_cons (pv 11) (pa_cons (pv 1) pa_nil))) (pv 12) (nomark _))))) (pss_one (ps_ret pe_bl)) pss_nil)))) pss_nil))))
 (pss_one (ps_ret pe_bl))))), ?_⟩
  walk_at "nk"
  obtain ⟨v1, v2, v3, rfl, h1, h2, h3⟩ := oall3 ha
  obtain ⟨W, L, ls⟩ := a
  have hw : WebOk W := hp.1
  have hl : PrOk W L := hp.2.1
  have hc : CutsAt W L.1 L.2 ls := hp.2.2
  have h1 : Im K H v1 (webD W) := h1
  have h2 : Im K H v2 (frD L) := h2
  have h3 : LsAt K H v3 (ls.map strsD) := h3
  have w0 : ∀ {σ : L2.St} {H9 : Hp}, σ[0]? = some (some v1) → Same H H9 → Ev (tVar 0) σ H9 (oI K (webD W)) := fun e s => ev_varI e (h1.same s)
  have w1 : ∀ {σ : L2.St} {H9 : Hp}, σ[1]? = some (some v2) → Same H H9 → Ev (tVar 1) σ H9 (oI K (frD L)) := fun e s => ev_varI e (h2.same s)
  refine q_set (ev_least_worth (K := K) (w0 rfl (Same.refl _)) (w1 rfl (Same.refl _)) hw hl) fun u H1 s1 p1 => ?_
  obtain ⟨val, hv, p1⟩ := p1
  have p1 : Im K H1 u (frD (red val L.2)) := p1
  refine q_par (eva_cons (ev_least_cut (K := K) (w0 rfl s1) (w1 rfl s1) hw hl) (eva_cons (ev_most_cut (K := K) (w0 rfl s1) (w1 rfl s1) hw hl) eva_nil)) fun u4 u5 H2 s2 p4 p5 => ?_
  have p4 : Im K H2 u4 (.tuple ((lowL W L.1 L.2).map .str)) := p4
  have p5 : Im K H2 u5 (.tuple ((highL W L.1 L.2).map .str)) := p5
  have s02 := s1.trans s2
  refine q_for (evi_tup (ev_ixT (i := 1) (ds := [.int W.top, .tuple (W.places.map placeD), .tuple (W.ties.map tieD)]) (w0 rfl s02) ev_int rfl)) fun H3 s3 => ?_
  have s03 := s02.trans s3
  refine ⟨fun i σ' H' => ∃ x6 x7 x8 x9 x10 x11 x12, σ' = [some v1, some v2, some v3, some u, some u4, some u5, x6, x7, x8, x9, x10, x11, x12, none] ∧ Same H3 H',
    ⟨none, none, none, none, none, none, none, rfl, Same.refl _⟩, fun i σ' H' ⟨_, _, _, _, _, _, _, _, s⟩ => tk_same s, ?_, ?_⟩
  · rintro i dd y σ' H' H'' hd ⟨x6, x7, x8, x9, x10, x11, x12, rfl, sH⟩ smm hy
    obtain ⟨z, hz, rfl, hzm⟩ := get_map hd
    refine g_names5 (d1 := .str z.n) (d2 := .int z.a) (d3 := .int z.b) (d4 := .int z.c) (d5 := .int z.d) hy fun y1 y2 y3 y4 y5 q1 q2 q3 q4 q5 => ?_
    obtain rfl := Im.str_inv q1
    have sA := sH.trans smm
    have s2A := s3.trans sA
    have s1A := s2.trans s2A
    have s0A := s1.trans s1A
    have hn : z.n ∈ W.names := List.mem_map.mpr ⟨z, hzm, rfl⟩
    show tSeq _ _ _ _ _
    refine q_whenI (b := decide (z.n ∈ highL W L.1 L.2) && decide (z.a < 99)) (fun σ1 H1 => ∃ x11 x12, σ1 = [some v1, some v2, some v3, some u, some u4, some u5, some (.str z.n), some y2, some y3, some y4, some y5, x11, x12, none] ∧ Same H'' H1) (evb_and (evb_test (ev_inS (K := K) (neg := false) (ev_varI (i := 6) rfl (Im.str _)) (ev_varI (i := 5) rfl (p5.same s2A)).qT)) fun _ => evb_test (ev_cmp (K := K) (ev_varI (i := 7) rfl q2) ev_int)) (fun hb D' H4 kk s4 => ?_) (fun hb H4 s4 => ⟨_, _, rfl, s4⟩) ?_
    · rw [Bool.and_eq_true] at hb
      have hi := of_decide_eq_true hb.1
      unfold highL at hi
      have nl : ¬ Lead (fam W L.1 L.2) z.n := by
        have := (List.mem_filter.mp hi).2
        unfold leadB at this
        exact cdec_no.mp (by simpa using this)
      obtain ⟨S0, h0, hs⟩ := some_has nl
      have s04 := s0A.trans s4
      exact greater_tried (K := K) (z := z) false rfl hw hl hv hc hzm (of_decide_eq_true hb.2) h0 hs (h1.same s04) (h2.same s04) (h3.same s04) (p1.same (s1A.trans s4)) fun y11 y12 H5 s5 => kk _ _ ⟨_, _, rfl, s4.trans s5⟩
    · rintro σ1 H4 ⟨x11, x12, rfl, s4⟩
      have s04 := s0A.trans s4
      refine s_whenI (b := (!decide (z.n ∈ lowL W L.1 L.2)) && decide (z.c < 999)) (fun σ1 H1 => ∃ x11 x12, σ1 = [some v1, some v2, some v3, some u, some u4, some u5, some (.str z.n), some y2, some y3, some y4, some y5, x11, x12, none] ∧ Same H'' H1) (evb_and (evb_test (ev_inS (K := K) (neg := true) (ev_varI (i := 6) rfl (Im.str _)) (ev_varI (i := 4) rfl (p4.same (s2A.trans s4))).qT)) fun _ => evb_test (ev_cmp (K := K) (ev_varI (i := 9) rfl (q4.same s4)) ev_int)) (fun hb D' H5 kk s5 => ?_) (fun hb H5 s5 => ⟨_, _, rfl, s4.trans s5⟩) fun σ1 H5 ⟨x11, x12, e, s5⟩ => ⟨_, _, _, _, _, _, _, e, sA.trans s5⟩
      rw [Bool.and_eq_true] at hb
      have hi : z.n ∉ lowL W L.1 L.2 := by
        have := hb.1
        simpa using this
      have nl : ¬ Low (fam W L.1 L.2) z.n := fun h => hi (by
        unfold lowL
        exact List.mem_filter.mpr ⟨hn, by unfold lowB; exact cdec_iff.mpr h⟩)
      obtain ⟨S0, h0, hs⟩ := some_lacks nl
      have s05 := s04.trans s5
      exact greater_tried (K := K) (z := z) true rfl hw hl hv hc hzm (of_decide_eq_true hb.2) h0 hs (h1.same s05) (h2.same s05) (h3.same s05) (p1.same ((s1A.trans s4).trans s5)) fun y11 y12 H6 s6 => kk _ _ ⟨_, _, rfl, (s4.trans s5).trans s6⟩
  · rintro σ' H' ⟨x6, x7, x8, x9, x10, x11, x12, rfl, sH⟩
    exact s_ret (ev_bl (K := K)) fun v H9 s9 p9 => q v H9 ((s03.trans sH).trans s9) p9
theorem ev__law_greater_right {σ : L2.St} {H : Hp} {ta tb tc : TE} {W : Web} {L : Fr} {ls : List (List Str)} (h1 : Ev ta σ H (oI K (webD W))) (h2 : Ev tb σ H (oI K (frD L))) (h3 : Ev tc σ H (oL K (ls.map strsD))) (hw : WebOk W) (hl : PrOk W L) (hc : CutsAt W L.1 L.2 ls) :
    Ev (tCall (sp__law_greater_right K) [] E0 (tCons ta (tCons tb (tCons tc tNil)))) σ H (oI K (.bool true)) := ev_call (W, L, ls) (eva_cons h1 (eva_cons h2 (eva_cons h3 eva_nil))) ⟨hw, hl, hc⟩
end
end Cut
end
section
namespace Cut
open PySem PySem.Spec PyProof.Rows L2
local macro_rules | `(tactic| walk_at "nk") => `(tactic| first | dsimp only [cxOf, Cx.nox, Cx.wish, Cx.blk] | skip)
local macro_rules | `(tactic| walk_at "im") => `(tactic| first
  | assumption
  | exact Im.int _ | exact Im.str _ | exact Im.bl _ | exact Im.non
  | (refine Im.same (by assumption) ?_; walk_at "im"))
local macro_rules | `(tactic| walk_at "side") => `(tactic| first | assumption | rfl | omega)
local macro_rules | `(tactic| walk_at "ev") => `(tactic| first
  | (with_reducible exact ev_int) | (with_reducible exact ev_str) | (with_reducible exact ev_bl) | (with_reducible exact ev_non)
  | ((with_reducible apply ev_varI); rfl; walk_at "im")
  | ((with_reducible apply ev_ixT); walk_at "ev"; walk_at "ev"; walk_at "side")
  | ((with_reducible apply ev_add); walk_at "ev"; walk_at "ev")
  | ((with_reducible apply ev_sub); walk_at "ev"; walk_at "ev")
  | ((with_reducible apply ev_mul); walk_at "ev"; walk_at "ev"; walk_at "side")
  | ((with_reducible apply ev_div); walk_at "ev"; walk_at "ev"; walk_at "side")
  | ((with_reducible apply ev_mod); walk_at "ev"; walk_at "ev"; walk_at "side")
  | ((with_reducible apply ev_eqI); walk_at "ev"; walk_at "ev")
  | ((with_reducible apply ev_neI); walk_at "ev"; walk_at "ev")
  | ((with_reducible apply ev_eqS); walk_at "ev"; walk_at "ev")
  | ((with_reducible apply ev_neS); walk_at "ev"; walk_at "ev")
  | ((with_reducible apply ev_cmp); walk_at "ev"; walk_at "ev")
  | ((with_reducible apply ev_tup1); walk_at "ev")
  | ((with_reducible apply ev_tup2); walk_at "ev"; walk_at "ev")
  | ((with_reducible apply ev_tup3); walk_at "ev"; walk_at "ev"; walk_at "ev")
  | ((with_reducible apply ev_tup4); walk_at "ev"; walk_at "ev"; walk_at "ev"; walk_at "ev")
  | ((with_reducible apply ev_tup5); walk_at "ev"; walk_at "ev"; walk_at "ev"; walk_at "ev"; walk_at "ev")
  | ((with_reducible apply ev_lenT); walk_at "ev")
  | ((with_reducible apply ev_abs); walk_at "ev")
  | ((with_reducible apply ev_tupleL); walk_at "ev")
  | ((with_reducible apply ev_notV); walk_at "ev")
  | assumption)

/-! the law -/
theorem pr_none {W : Web} (hw : WebOk W) : PrOk W (0, 1) := ⟨⟨by decide, by decide⟩, by decide, by show (0 : Int) ≤ W.top * 1; have := hw.tp; omega, by decide⟩
theorem pr_full {W : Web} (hw : WebOk W) : PrOk W (W.top, 1) := ⟨⟨by show (0 : Int) < 1; decide, Int.gcd_one_right ..⟩, by show 0 ≤ W.top; have := hw.tp; omega, by show W.top ≤ W.top * 1; omega, by show (1 : Int) ≤ 1000000000000; decide⟩
section
variable {K : PySem.W.Frag} {σ : L2.St} {H : Hp} {te ta tb : TE}
/-- a list of two that are known by what they keep -/
theorem ev_lst2E {β : Type} {R : β → Prop} {f : β → PyData} (h : Ev ta σ H (oE R fun b => oI K (f b))) (k : Ev tb σ H (oE R fun b => oI K (f b))) : Ev (tLst (tCons ta (tCons tb tNil))) σ H (oE (fun ab : β × β => R ab.1 ∧ R ab.2) fun ab => oN K H [f ab.1, f ab.2]) := fun H1 s Q q =>
  eva_cons h (eva_cons k eva_nil) H1 s _ fun vs H2 s2 p2 => by
    obtain ⟨v1, v2, rfl, ⟨b1, r1, p3⟩, b2, r2, p4⟩ := oall2 p2
    refine ⟨sz_le (n := 2) (by decide), fun a ha => q _ _ (s2.trans (same_new ha)) ⟨(b1, b2), ⟨r1, r2⟩, a, _, rfl, (s.trans s2).free ha, upd_same, ?_⟩⟩
    exact .cons (Im.same (same_new ha) p3) (.one (Im.same (same_new ha) p4))
end
section
variable {P : Program} {w : World} {K : PySem.W.Frag} {mg : Str → Option Value} {base : Heap}
def sp_law (K : PySem.W.Frag) : Sp := spD (α := List Int) (fun a => [oS K a]) (fun _ => True) fun _ => oI K (.bool true)
theorem ok_of {α : Type} {x : Str} {st : Stmt} {N ps : List Str} {k : Nat} {f : Addr} {fd : FuncData} {Ps : α → List Ob} {pre : α → Prop} {R : α → Ob} (F : Fun K x x st f fd) (S : FnScope N ps (defScope st)) (len : ∀ a, (Ps a).length = ps.length)
    (body : ∀ (cdv : Value) (A : Around) (outer : List Env) (s : Shared) (H : Hp) (vs : List V) (Q : VK) (E : XK) (a : α), Room k (A.deeper (envOfC x (defScope st) s.heap.objs.size f cdv)) → pre a → OAll (Ps a) vs H → (∀ v H', Same H H' → (R a).p v H' → Q v H') →
      ∃ t, PSs (cxOf CX0 P w K mg base N x (defScope st) f cdv A outer s H E).nox (defBody st) t ∧ t { nx := fun _ H' => Q .non H', rt := Q } (start N vs) H) : FnOk P w K mg base CX0 (k + 1) f fd ps (spD Ps pre R) := by
  refine F.ok S (fun vs H Q E h => ?_) fun cdv A outer s H vs Q E hr h => ?_
  · obtain ⟨a, _, h, _⟩ := h
    rw [h.length, len]
  · obtain ⟨a, h4, h5, h6⟩ := h
    exact body cdv A outer s H vs Q E a hr h4 h5 h6
theorem ok_law (T : Tx K mg) {f : Addr} {fd : FuncData} (F : Fun K "law" "law" s_law f fd) : FnOk P w K mg base CX0 12 f fd ["_law_script"] (sp_law K) := by
  refine ok_of F sc_law (fun _ => rfl) fun cdv A outer s H vs Q E a hr hp ha q => ?_
  refine ⟨_, (pss_cons (ps_set (i := 1) sc_law.nd rfl (Or.inl rfl) (pe_at (at__law_drawn T) (hr.mono (by decide)) (by rfl) (pa_cons (pv 0) pa_nil)))
 (pss_cons (ps_set (i := 2) sc_law.nd rfl (Or.inl rfl) (pe_at (at__law_numbers T) (hr.mono (by decide)) (by rfl) (pa_cons (pe_at (at__law_cell T) (hr.mono (by decide)) (by rfl) (pa_cons (pv 0) (pa_cons pe_int pa_nil))) (pa_cons pe_int pa_nil))))
 (pss_cons (ps_set (i := 3) sc_law.nd rfl (Or.inl rfl) (pe_lst (pa_cons (pe_at (at__law_price T) (hr.mono (by decide)) (by rfl) (pa_cons (pv 1) (pa_cons (pe_ix (r := rIxL K) ix_list (pv 2) pe_int (fun _ _ => rfl)) (pa_cons (pe_ix (r := rIxL K) ix_list (pv 2) pe_int (fun _ _ => rfl)) pa_nil)))) (pa_cons (pe_at (at__law_price T) (hr.mono (by decide)) (by rfl) (pa_cons (pv 1) (pa_cons (pe_ix (r := rIxL K) ix_list (pv 2) pe_int (fun _ _ => rfl)) (pa_cons (pe_ix (r := rIxL K) ix_list (pv 2) pe_int (fun _ _ => rfl)) pa_nil)))) pa_nil))))
 (pss_cons (ps_expr (pe_bm PySem.F.plainAttrs_list PySem.F.slot_list_append PySem.F.type_list_append mt_append (pv 3) (pa_cons (pe_ix (r := rIxL K) ix_list (pe_lst (pa_cons (pe_tup (pa_cons pe_int (pa_cons pe_int pa_nil))) (pa_cons (pe_tup (pa_cons (pe_ix (r := rIxT K) ix_tup (pv 1) pe_int (fun _ _ => rfl)) (pa_cons pe_int pa_nil))) pa_nil))) (pe_op op_mod (pe_ix (r := rIxL K) ix_list (pv 2) pe_int (fun _ _ => rfl)) pe_int) (fun _ _ => rfl)) pa_nil)))
 (pss_cons (ps_for PassesOwn.never rfl (show PI _ _ _ (iList K _) from pi_list (pv 3)) (pg_name (i := 4) sc_law.nd rfl (Or.inl rfl)) (pss_cons (ps_set (i := 5) sc_law.nd rfl (Or.inl rfl) (pe_at (at_cuts_at T) (hr.mono (by decide)) (by rfl) (pa_cons (pv 1) (pa_cons (pv 4) pa_nil))))
 (pss_cons (ps_if (PW.pt (pw_or (pt_cmpR op_ne (pe_at (at_many_cuts T) (hr.mono (by decide)) (by rfl) (pa_cons (pv 1) (pa_cons (pv 4) pa_nil))) (pe_callB (r := rLenS K) cr_lenS (by rfl) T.m_len (by decide +kernel) (pa_cons (pv 5) pa_nil)) (nomark _)) (pw_or1 (pt_not (pt_val (pe_at (at__law_shape_right T) (hr.mono (by decide)) (by rfl) (pa_cons (pv 1) (pa_cons (pe_at (at_shape_at T) (hr.mono (by decide)) (by rfl) (pa_cons (pv 1) (pa_cons (pv 4) pa_nil))) (pa_cons (pv 5) pa_nil))))))))) (pss_one (ps_ret pe_bl)) pss_nil)
 (pss_one (ps_if (pt_not (pt_val (pe_at (at__law_greater_right T) (hr.mono (by decide)) (by rfl) (pa_cons (pv 1) (pa_cons (pv 4) (pa_cons (pv 5) pa_nil)))))) (pss_one (ps_ret pe_bl)) pss_nil)))))
 (pss_one (ps_ret pe_bl))))))), ?_⟩
  walk_at "nk"
  obtain ⟨v1, rfl, h1⟩ := oall1 ha
  have h1 : (oS K a).p v1 H := h1
  refine q_set (ev__law_drawn (K := K) a (ev_varSc (i := 0) rfl h1 (Same.refl _))) fun u1 H1 s1 p1 => ?_
  obtain ⟨W, hw, p1⟩ := p1
  have p1 : Im K H1 u1 (webD W) := p1
  have WB : ∀ {σ : L2.St} {H9 : Hp}, σ[1]? = some (some u1) → Same H1 H9 → Ev (tVar 1) σ H9 (oI K (webD W)) := fun e s => ev_varI e (p1.same s)
  refine q_set (ev__law_numbers (K := K) (m := 8) (ev__law_cell (ns := a) (k := 30) (ev_varSc (i := 0) rfl h1 s1) ev_int (by decide)) ev_int (by decide)) fun u2 H2 s2 p2 => ?_
  obtain ⟨nu, nr, p2⟩ := p2
  have p2 : LsAt K H2 u2 (intsD nu) := p2
  obtain ⟨x0, g0, b0, c0⟩ := nr.get 0 (by decide)
  obtain ⟨x1, g1, b1, c1⟩ := nr.get 1 (by decide)
  obtain ⟨x2, g2, b2, c2⟩ := nr.get 2 (by decide)
  obtain ⟨x3, g3, b3, c3⟩ := nr.get 3 (by decide)
  obtain ⟨x4, g4, b4, c4⟩ := nr.get 4 (by decide)
  have X : ∀ {σ : L2.St} {H9 : Hp} (k : Nat) {kk n : Int}, kk = (k : Int) → nu[k]? = some n → σ[2]? = some (some u2) → Same H2 H9 → Ev (tOp (rIxL K) (tVar 2) (tC (.int kk))) σ H9 (oI K (.int n)) := fun {σ H9} k {kk n} hk g e s => ev_num k hk (ev_varLs e (p2.same s)) g
  refine q_set (ev_lst2E (K := K) (ev__law_price (W := W) (WB rfl s2) (X 0 rfl g0 rfl (Same.refl _)) (X 1 rfl g1 rfl (Same.refl _)) hw ⟨b0, c0⟩ ⟨b1, c1⟩) (ev__law_price (W := W) (WB rfl s2) (X 2 rfl g2 rfl (Same.refl _)) (X 3 rfl g3 rfl (Same.refl _)) hw ⟨b2, c2⟩ ⟨b3, c3⟩)) fun u3 H3 s3 p3 => ?_
  obtain ⟨⟨La, Lb⟩, ⟨r1, r2⟩, lf, xs, rfl, nf, ef, if_⟩ := p3
  have r1 : PrOk W La := r1
  have r2 : PrOk W Lb := r2
  have s03 := (s1.trans s2).trans s3
  have nf0 : H lf = none := (s1.trans s2).free nf
  have lx : xs.length = 2 := if_.length
  obtain ⟨L3, r3, e3⟩ : ∃ L3, PrOk W L3 ∧ atI [frD (0, 1), frD (W.top, 1)] (x4 % 2) = some (frD L3) := by
    have m := mod_bd x4 (j := 2) (by decide)
    by_cases h : x4 % 2 = 0
    · rw [h]
      exact ⟨(0, 1), pr_none hw, rfl⟩
    · obtain h : x4 % 2 = 1 := by omega
      rw [h]
      exact ⟨(W.top, 1), pr_full hw, rfl⟩
  refine q_app ef (ev_varV (i := 3) rfl) (P := oI K (frD L3)) (ev_ixL (K := K) (ds := [frD (0, 1), frD (W.top, 1)]) (Ev.ls (ev_lstN (eva_cons (ev_tup2 (ev_int (i := 0)) (ev_int (i := 1))) (eva_cons (ev_tup2 (ev_ixT (i := 0) (ds := [.int W.top, .tuple (W.places.map placeD), .tuple (W.ties.map tieD)]) (WB rfl (s2.trans s3)) ev_int rfl) (ev_int (i := 1))) eva_nil)) (by simp))) (ev_mod (X 4 rfl g4 rfl s3) ev_int (by decide)) e3) (by omega) fun u4 H4 s4 p4 => ?_
  have k4 : TupKeep H4 (upd H4 lf (.lst (xs ++ [u4]))) := tk_upd (s4 _ _ ef) trivial
  have sB : Same H (upd H4 lf (.lst (xs ++ [u4]))) := same_mut (s03.trans s4) nf0
  have p1B := ((p1.same ((s2.trans s3).trans s4)).keep k4)
  have all3 : ImAll K (upd H4 lf (.lst (xs ++ [u4]))) (xs ++ [u4]) ([La, Lb, L3].map frD) := ((if_.same s4).keep k4).snoc (Im.keep k4 p4)
  refine q_forA (evi_listA (ev_varV (i := 3) rfl) upd_same all3) fun H5 s5 => ?_
  refine ⟨fun i σ' H' => ∃ x4 x5, σ' = [some v1, some u1, some u2, some (.ref lf), x4, x5] ∧ Same H5 H',
    ⟨none, none, rfl, Same.refl _⟩, fun i σ' H' ⟨_, _, _, s⟩ => ⟨tk_same s, s _ _ (s5 _ _ upd_same)⟩, ?_, ?_⟩
  · rintro i dd y σ' H' H'' hd ⟨x4, x5, rfl, sH⟩ smm hy
    obtain ⟨L, hL, rfl, hLm⟩ := get_map hd
    have hl : PrOk W L := by
      simp only [List.mem_cons, List.not_mem_nil, or_false] at hLm
      rcases hLm with rfl | rfl | rfl
      · exact r1
      · exact r2
      · exact r3
    have hy : Im K H'' y (frD L) := hy
    have s5A := (s5.trans sH).trans smm
    have W1 : ∀ {σ : L2.St} {H9 : Hp}, σ[1]? = some (some u1) → Same H'' H9 → Ev (tVar 1) σ H9 (oI K (webD W)) := fun e s => ev_varI e (p1B.same (s5A.trans s))
    have PR : ∀ {σ : L2.St} {H9 : Hp}, σ[4]? = some (some y) → Same H'' H9 → Ev (tVar 4) σ H9 (oI K (frD L)) := fun e s => ev_varI e (hy.same s)
    show tSeq _ _ _ _ _
    refine q_set (ev_cuts_at (K := K) (W := W) (W1 rfl (Same.refl _)) (PR rfl (Same.refl _)) hw hl) fun u5 H6 s6 p6 => ?_
    obtain ⟨ls, hc, p6⟩ := p6
    have p6 : LsAt K H6 u5 (ls.map strsD) := p6
    refine q_skip (evb_is (evb_or (evb_test (ev_neI (K := K) (ev_many_cuts (W := W) (W1 rfl s6) (PR rfl s6) hw hl) (ev_lenL (ev_varLs (i := 5) rfl p6)))) fun _ => evb_not (evb_B (ev__law_shape_right (K := K) (W := W) (L := L) (W1 rfl s6) (ev_shape_at (W1 rfl s6) (PR rfl s6) hw hl) (ev_varLs (i := 5) rfl p6) hw hc (cuts_sk hw hc)))) ?_) fun H7 s7 => ?_
    · rw [List.length_map, hc.len, decide_eq_true rfl]
      rfl
    exact s_when (b := false) (evb_is (evb_not (evb_B (ev__law_greater_right (K := K) (W := W) (L := L) (W1 rfl (s6.trans s7)) (PR rfl (s6.trans s7)) (ev_varLs (i := 5) rfl (p6.same s7)) hw hl hc))) rfl) (fun e => nomatch e) fun _ H8 s8 => ⟨_, _, rfl, (((sH.trans smm).trans s6).trans s7).trans s8⟩
  · rintro σ' H' ⟨x4, x5, rfl, sH⟩
    exact s_ret (ev_bl (K := K)) fun v H9 s9 p9 => q v H9 (((sB.trans s5).trans sH).trans s9) p9
end
end Cut
end
section
namespace Cut
open PySem PySem.Spec PyProof.Rows L2
/-! what the top leaves -/
section
variable {K : PySem.W.Frag} {h : Heap} {mg : Str → Option Value}
theorem def_mk {x : Str} {st : Stmt} {ps : List Str} {f : Addr} {od an : Option Addr} {sl : Array (Option Value)} {oc kV dc pm cd ct : Value} (X : K.In h) (G : h.Ns mainGlobals mg) (a : PySem.W.nsIn K mainGlobals x = some (some (.ref f)))
    (l : K.lookup f = some ⟨oc, od, .func (PySem.W.fnOf x x (defArgs st) (defBody st) (defScope st) .none kV dc pm an cd ct), sl⟩) (c : PySem.W.codeIn K cd x = true) (k : PySem.W.keepIn K (.ref f) = true)
    (b : ∀ (kV doc pm : Value) (an : Option Addr) (cdv ct : Value) (us : List Value), us.length = ps.length → bindArgs (PySem.W.fnOf x x (defArgs st) (defBody st) (defScope st) .none kV doc pm an cdv ct) ⟨us, []⟩ = pure (ps.zip us)) : Def K mg x st ps :=
  ⟨f, _, fun_mk (st := st) l c k, PySem.W.mg_of X G a, (fun_mk (st := st) l c k).binds b⟩
theorem const_mk {x : Str} {a : Addr} {o : Obj} {its : Array Value} {n : Nat} {t u : Nat} (X : K.In h) (G : h.Ns mainGlobals mg) (e : PySem.W.nsIn K mainGlobals x = some (some (.ref a))) (l : K.lookup a = some o) (c : o.cls = .type "tuple") (d : o.data = .seq its n) (i : its.toList = [.int 0 t, .int 1 u]) :
    ∃ a, mg x = some (.ref a) ∧ ∀ H, SqT K H a [.int 0, .int 1] := by
  refine ⟨a, PySem.W.mg_of X G e, fun H => .inr ⟨o, its, n, l, c, d, ?_, ?_⟩⟩
  · rw [← Array.length_toList, i]
    exact sz_le (n := 2) (by decide)
  · rw [i]
    exact .cons ⟨t, rfl⟩ (.cons ⟨u, rfl⟩ .nil)
theorem law_mk {q : Program} {w : World} {fa f : Addr} {od an : Option Addr} {sl : Array (Option Value)} {oc kV dc pm cd ct : Value} (X : K.In h) (G : h.Ns mainGlobals mg) (hfa : mg "law" = some (.ref fa)) (T : Tx K mg)
    (a : PySem.W.nsIn K mainGlobals "law" = some (some (.ref f))) (l : K.lookup f = some ⟨oc, od, .func (PySem.W.fnOf "law" "law" (defArgs s_law) (defBody s_law) (defScope s_law) .none kV dc pm an cd ct), sl⟩) (c : PySem.W.codeIn K cd "law" = true) (k : PySem.W.keepIn K (.ref f) = true) :
    ∃ fd : FuncData, (∀ (s : Shared) (v : Value), BindsTo s fd ⟨[v], []⟩ [("_law_script", v)]) ∧ ∀ base : Heap, K.In base → base.Ns mainGlobals mg → FnOk q w K mg base CX0 12 fa fd ["_law_script"] (sp_law K) := by
  cases hfa.symm.trans (PySem.W.mg_of X G a)
  exact ⟨PySem.W.fnOf "law" "law" (defArgs s_law) (defBody s_law) (defScope s_law) .none kV dc pm an cd ct, fun s v => .of_eq rfl, fun base _ _ => ok_law T (fun_mk (st := s_law) l c k)⟩
theorem law_sp {H : Hp} {a : Addr} {ns : List Int} (h : SqL K H a (ns.map V.int)) : sp_law K [.ref a] H (fun v _ => v = .bl true) fun _ _ _ => False :=
  ⟨ns, trivial, .cons ⟨a, rfl, h⟩ .nil, fun _ _ _ p => Im.bl_inv p⟩
end
end Cut
end
open PySem PySem.W PyProof.Rows
set_option maxRecDepth 100000 in
set_option maxHeartbeats 0 in
theorem PySem.Challenge.cw_cutstairs_k23_whole_shapes_and_greater_t_holds : PySem.Challenge.rw_cutstairs_k23_whole_shapes_and_greater_t.Holds := by
  w_on; o_law; k_head; (case hw => w_witness2)
  k_fill
  refine L2.walk_of (l := PySem.Challenge.rw_cutstairs_k23_whole_shapes_and_greater_t) (n := 63) (k := 12) (x := "_law_script") (CX := fun _ => L2.CX0) (sp := fun w => Cut.sp_law _) rfl (by decide) rfl ⟨rfl, by decide, by decide⟩ (fun w h Y => PySem.W.kIn_of Y) ?F (fun _ _ _ _ _ _ hS => Cut.law_sp hS) (fun _ _ _ _ _ h => h)
  case F =>
    intro w mg fa h KX G hmg
    refine' Cut.law_mk KX G hmg ?T ?a ?l ?c ?k
    case T =>
      refine' ⟨?d_is_whole, ?d_shared_part, ?d_is_fraction, ?d_fraction, ?d_plus, ?d_minus, ?d_times, ?d_below, ?d_names_of, ?d_is_price, ?d_check_price, ?d_sizes_at, ?d_shared_bottom, ?d_rests_of, ?d_road, ?d_greatest, ?d_arcs_of, ?d_stream_in, ?d_stream_at, ?d_stream_worth, ?d_are_parts, ?d_is_kept, ?d_is_stream, ?d_check_stream, ?d_ways_between, ?d_reached_by, ?d_unlike_ones, ?d_led_to_in, ?d_led_from_in, ?d_led_to, ?d_led_from, ?d_ways_left, ?d_reached, ?d_shape_at, ?d_closed_sets, ?d_many_cuts, ?d_cuts_at, ?d_least_told, ?d_least_worth, ?d_least_cut, ?d_most_cut, ?d__law_cell, ?d__law_numbers, ?d__law_names, ?d__law_place, ?d__law_ties, ?d__law_web, ?d__law_low, ?d__law_price, ?d__law_drawn, ?d__law_by_shape, ?d__law_shape_right, ?d__law_greater, ?d__law_greater_right, ?d_law, ?m_isinstance, ?m_int, ?m_bool, ?m_tuple, ?m_abs, ?m_len, ?m_range, ?m_enumerate, ?m_zip, ?m_list, ?m_dict, ?m_sorted, ?m_min, ?m_max, ?m_all, ?m_set, ?c_NOUGHT_webs, ?c_NOUGHT_streams⟩
      case d_is_whole =>
        refine' Cut.def_mk KX G ?a_is_whole ?l_is_whole ?c_is_whole ?k_is_whole fun _ _ _ _ _ _ us hl => match us, hl with | [_], _ => rfl
        (case a_is_whole => k_is); (case l_is_whole => k_is); (case c_is_whole => k_is); (case k_is_whole => k_is)
      case d_shared_part =>
        refine' Cut.def_mk KX G ?a_shared_part ?l_shared_part ?c_shared_part ?k_shared_part fun _ _ _ _ _ _ us hl => match us, hl with | [_, _], _ => rfl
        (case a_shared_part => k_is); (case l_shared_part => k_is); (case c_shared_part => k_is); (case k_shared_part => k_is)
      case d_is_fraction =>
        refine' Cut.def_mk KX G ?a_is_fraction ?l_is_fraction ?c_is_fraction ?k_is_fraction fun _ _ _ _ _ _ us hl => match us, hl with | [_], _ => rfl
        (case a_is_fraction => k_is); (case l_is_fraction => k_is); (case c_is_fraction => k_is); (case k_is_fraction => k_is)
      case d_fraction =>
        refine' Cut.def_mk KX G ?a_fraction ?l_fraction ?c_fraction ?k_fraction fun _ _ _ _ _ _ us hl => match us, hl with | [_, _], _ => rfl
        (case a_fraction => k_is); (case l_fraction => k_is); (case c_fraction => k_is); (case k_fraction => k_is)
      case d_plus =>
        refine' Cut.def_mk KX G ?a_plus ?l_plus ?c_plus ?k_plus fun _ _ _ _ _ _ us hl => match us, hl with | [_, _], _ => rfl
        (case a_plus => k_is); (case l_plus => k_is); (case c_plus => k_is); (case k_plus => k_is)
      case d_minus =>
        refine' Cut.def_mk KX G ?a_minus ?l_minus ?c_minus ?k_minus fun _ _ _ _ _ _ us hl => match us, hl with | [_, _], _ => rfl
        (case a_minus => k_is); (case l_minus => k_is); (case c_minus => k_is); (case k_minus => k_is)
      case d_times =>
        refine' Cut.def_mk KX G ?a_times ?l_times ?c_times ?k_times fun _ _ _ _ _ _ us hl => match us, hl with | [_, _], _ => rfl
        (case a_times => k_is); (case l_times => k_is); (case c_times => k_is); (case k_times => k_is)
      case d_below =>
        refine' Cut.def_mk KX G ?a_below ?l_below ?c_below ?k_below fun _ _ _ _ _ _ us hl => match us, hl with | [_, _], _ => rfl
        (case a_below => k_is); (case l_below => k_is); (case c_below => k_is); (case k_below => k_is)
      case d_names_of =>
        refine' Cut.def_mk KX G ?a_names_of ?l_names_of ?c_names_of ?k_names_of fun _ _ _ _ _ _ us hl => match us, hl with | [_], _ => rfl
        (case a_names_of => k_is); (case l_names_of => k_is); (case c_names_of => k_is); (case k_names_of => k_is)
      case d_is_price =>
        refine' Cut.def_mk KX G ?a_is_price ?l_is_price ?c_is_price ?k_is_price fun _ _ _ _ _ _ us hl => match us, hl with | [_, _], _ => rfl
        (case a_is_price => k_is); (case l_is_price => k_is); (case c_is_price => k_is); (case k_is_price => k_is)
      case d_check_price =>
        refine' Cut.def_mk KX G ?a_check_price ?l_check_price ?c_check_price ?k_check_price fun _ _ _ _ _ _ us hl => match us, hl with | [_, _], _ => rfl
        (case a_check_price => k_is); (case l_check_price => k_is); (case c_check_price => k_is); (case k_check_price => k_is)
      case d_sizes_at =>
        refine' Cut.def_mk KX G ?a_sizes_at ?l_sizes_at ?c_sizes_at ?k_sizes_at fun _ _ _ _ _ _ us hl => match us, hl with | [_, _], _ => rfl
        (case a_sizes_at => k_is); (case l_sizes_at => k_is); (case c_sizes_at => k_is); (case k_sizes_at => k_is)
      case d_shared_bottom =>
        refine' Cut.def_mk KX G ?a_shared_bottom ?l_shared_bottom ?c_shared_bottom ?k_shared_bottom fun _ _ _ _ _ _ us hl => match us, hl with | [_], _ => rfl
        (case a_shared_bottom => k_is); (case l_shared_bottom => k_is); (case c_shared_bottom => k_is); (case k_shared_bottom => k_is)
      case d_rests_of =>
        refine' Cut.def_mk KX G ?a_rests_of ?l_rests_of ?c_rests_of ?k_rests_of fun _ _ _ _ _ _ us hl => match us, hl with | [_, _, _], _ => rfl
        (case a_rests_of => k_is); (case l_rests_of => k_is); (case c_rests_of => k_is); (case k_rests_of => k_is)
      case d_road =>
        refine' Cut.def_mk KX G ?a_road ?l_road ?c_road ?k_road fun _ _ _ _ _ _ us hl => match us, hl with | [_, _, _], _ => rfl
        (case a_road => k_is); (case l_road => k_is); (case c_road => k_is); (case k_road => k_is)
      case d_greatest =>
        refine' Cut.def_mk KX G ?a_greatest ?l_greatest ?c_greatest ?k_greatest fun _ _ _ _ _ _ us hl => match us, hl with | [_, _, _], _ => rfl
        (case a_greatest => k_is); (case l_greatest => k_is); (case c_greatest => k_is); (case k_greatest => k_is)
      case d_arcs_of =>
        refine' Cut.def_mk KX G ?a_arcs_of ?l_arcs_of ?c_arcs_of ?k_arcs_of fun _ _ _ _ _ _ us hl => match us, hl with | [_, _], _ => rfl
        (case a_arcs_of => k_is); (case l_arcs_of => k_is); (case c_arcs_of => k_is); (case k_arcs_of => k_is)
      case d_stream_in =>
        refine' Cut.def_mk KX G ?a_stream_in ?l_stream_in ?c_stream_in ?k_stream_in fun _ _ _ _ _ _ us hl => match us, hl with | [_, _], _ => rfl
        (case a_stream_in => k_is); (case l_stream_in => k_is); (case c_stream_in => k_is); (case k_stream_in => k_is)
      case d_stream_at =>
        refine' Cut.def_mk KX G ?a_stream_at ?l_stream_at ?c_stream_at ?k_stream_at fun _ _ _ _ _ _ us hl => match us, hl with | [_, _], _ => rfl
        (case a_stream_at => k_is); (case l_stream_at => k_is); (case c_stream_at => k_is); (case k_stream_at => k_is)
      case d_stream_worth =>
        refine' Cut.def_mk KX G ?a_stream_worth ?l_stream_worth ?c_stream_worth ?k_stream_worth fun _ _ _ _ _ _ us hl => match us, hl with | [_], _ => rfl
        (case a_stream_worth => k_is); (case l_stream_worth => k_is); (case c_stream_worth => k_is); (case k_stream_worth => k_is)
      case d_are_parts =>
        refine' Cut.def_mk KX G ?a_are_parts ?l_are_parts ?c_are_parts ?k_are_parts fun _ _ _ _ _ _ us hl => match us, hl with | [_, _], _ => rfl
        (case a_are_parts => k_is); (case l_are_parts => k_is); (case c_are_parts => k_is); (case k_are_parts => k_is)
      case d_is_kept =>
        refine' Cut.def_mk KX G ?a_is_kept ?l_is_kept ?c_is_kept ?k_is_kept fun _ _ _ _ _ _ us hl => match us, hl with | [_, _], _ => rfl
        (case a_is_kept => k_is); (case l_is_kept => k_is); (case c_is_kept => k_is); (case k_is_kept => k_is)
      case d_is_stream =>
        refine' Cut.def_mk KX G ?a_is_stream ?l_is_stream ?c_is_stream ?k_is_stream fun _ _ _ _ _ _ us hl => match us, hl with | [_, _, _], _ => rfl
        (case a_is_stream => k_is); (case l_is_stream => k_is); (case c_is_stream => k_is); (case k_is_stream => k_is)
      case d_check_stream =>
        refine' Cut.def_mk KX G ?a_check_stream ?l_check_stream ?c_check_stream ?k_check_stream fun _ _ _ _ _ _ us hl => match us, hl with | [_, _, _], _ => rfl
        (case a_check_stream => k_is); (case l_check_stream => k_is); (case c_check_stream => k_is); (case k_check_stream => k_is)
      case d_ways_between =>
        refine' Cut.def_mk KX G ?a_ways_between ?l_ways_between ?c_ways_between ?k_ways_between fun _ _ _ _ _ _ us hl => match us, hl with | [_, _, _], _ => rfl
        (case a_ways_between => k_is); (case l_ways_between => k_is); (case c_ways_between => k_is); (case k_ways_between => k_is)
      case d_reached_by =>
        refine' Cut.def_mk KX G ?a_reached_by ?l_reached_by ?c_reached_by ?k_reached_by fun _ _ _ _ _ _ us hl => match us, hl with | [_, _], _ => rfl
        (case a_reached_by => k_is); (case l_reached_by => k_is); (case c_reached_by => k_is); (case k_reached_by => k_is)
      case d_unlike_ones =>
        refine' Cut.def_mk KX G ?a_unlike_ones ?l_unlike_ones ?c_unlike_ones ?k_unlike_ones fun _ _ _ _ _ _ us hl => match us, hl with | [_], _ => rfl
        (case a_unlike_ones => k_is); (case l_unlike_ones => k_is); (case c_unlike_ones => k_is); (case k_unlike_ones => k_is)
      case d_led_to_in =>
        refine' Cut.def_mk KX G ?a_led_to_in ?l_led_to_in ?c_led_to_in ?k_led_to_in fun _ _ _ _ _ _ us hl => match us, hl with | [_, _, _], _ => rfl
        (case a_led_to_in => k_is); (case l_led_to_in => k_is); (case c_led_to_in => k_is); (case k_led_to_in => k_is)
      case d_led_from_in =>
        refine' Cut.def_mk KX G ?a_led_from_in ?l_led_from_in ?c_led_from_in ?k_led_from_in fun _ _ _ _ _ _ us hl => match us, hl with | [_, _, _], _ => rfl
        (case a_led_from_in => k_is); (case l_led_from_in => k_is); (case c_led_from_in => k_is); (case k_led_from_in => k_is)
      case d_led_to =>
        refine' Cut.def_mk KX G ?a_led_to ?l_led_to ?c_led_to ?k_led_to fun _ _ _ _ _ _ us hl => match us, hl with | [_, _, _], _ => rfl
        (case a_led_to => k_is); (case l_led_to => k_is); (case c_led_to => k_is); (case k_led_to => k_is)
      case d_led_from =>
        refine' Cut.def_mk KX G ?a_led_from ?l_led_from ?c_led_from ?k_led_from fun _ _ _ _ _ _ us hl => match us, hl with | [_, _, _], _ => rfl
        (case a_led_from => k_is); (case l_led_from => k_is); (case c_led_from => k_is); (case k_led_from => k_is)
      case d_ways_left =>
        refine' Cut.def_mk KX G ?a_ways_left ?l_ways_left ?c_ways_left ?k_ways_left fun _ _ _ _ _ _ us hl => match us, hl with | [_, _, _], _ => rfl
        (case a_ways_left => k_is); (case l_ways_left => k_is); (case c_ways_left => k_is); (case k_ways_left => k_is)
      case d_reached =>
        refine' Cut.def_mk KX G ?a_reached ?l_reached ?c_reached ?k_reached fun _ _ _ _ _ _ us hl => match us, hl with | [_, _], _ => rfl
        (case a_reached => k_is); (case l_reached => k_is); (case c_reached => k_is); (case k_reached => k_is)
      case d_shape_at =>
        refine' Cut.def_mk KX G ?a_shape_at ?l_shape_at ?c_shape_at ?k_shape_at fun _ _ _ _ _ _ us hl => match us, hl with | [_, _], _ => rfl
        (case a_shape_at => k_is); (case l_shape_at => k_is); (case c_shape_at => k_is); (case k_shape_at => k_is)
      case d_closed_sets =>
        refine' Cut.def_mk KX G ?a_closed_sets ?l_closed_sets ?c_closed_sets ?k_closed_sets fun _ _ _ _ _ _ us hl => match us, hl with | [_], _ => rfl
        (case a_closed_sets => k_is); (case l_closed_sets => k_is); (case c_closed_sets => k_is); (case k_closed_sets => k_is)
      case d_many_cuts =>
        refine' Cut.def_mk KX G ?a_many_cuts ?l_many_cuts ?c_many_cuts ?k_many_cuts fun _ _ _ _ _ _ us hl => match us, hl with | [_, _], _ => rfl
        (case a_many_cuts => k_is); (case l_many_cuts => k_is); (case c_many_cuts => k_is); (case k_many_cuts => k_is)
      case d_cuts_at =>
        refine' Cut.def_mk KX G ?a_cuts_at ?l_cuts_at ?c_cuts_at ?k_cuts_at fun _ _ _ _ _ _ us hl => match us, hl with | [_, _], _ => rfl
        (case a_cuts_at => k_is); (case l_cuts_at => k_is); (case c_cuts_at => k_is); (case k_cuts_at => k_is)
      case d_least_told =>
        refine' Cut.def_mk KX G ?a_least_told ?l_least_told ?c_least_told ?k_least_told fun _ _ _ _ _ _ us hl => match us, hl with | [_, _], _ => rfl
        (case a_least_told => k_is); (case l_least_told => k_is); (case c_least_told => k_is); (case k_least_told => k_is)
      case d_least_worth =>
        refine' Cut.def_mk KX G ?a_least_worth ?l_least_worth ?c_least_worth ?k_least_worth fun _ _ _ _ _ _ us hl => match us, hl with | [_, _], _ => rfl
        (case a_least_worth => k_is); (case l_least_worth => k_is); (case c_least_worth => k_is); (case k_least_worth => k_is)
      case d_least_cut =>
        refine' Cut.def_mk KX G ?a_least_cut ?l_least_cut ?c_least_cut ?k_least_cut fun _ _ _ _ _ _ us hl => match us, hl with | [_, _], _ => rfl
        (case a_least_cut => k_is); (case l_least_cut => k_is); (case c_least_cut => k_is); (case k_least_cut => k_is)
      case d_most_cut =>
        refine' Cut.def_mk KX G ?a_most_cut ?l_most_cut ?c_most_cut ?k_most_cut fun _ _ _ _ _ _ us hl => match us, hl with | [_, _], _ => rfl
        (case a_most_cut => k_is); (case l_most_cut => k_is); (case c_most_cut => k_is); (case k_most_cut => k_is)
      case d__law_cell =>
        refine' Cut.def_mk KX G ?a__law_cell ?l__law_cell ?c__law_cell ?k__law_cell fun _ _ _ _ _ _ us hl => match us, hl with | [_, _], _ => rfl
        (case a__law_cell => k_is); (case l__law_cell => k_is); (case c__law_cell => k_is); (case k__law_cell => k_is)
      case d__law_numbers =>
        refine' Cut.def_mk KX G ?a__law_numbers ?l__law_numbers ?c__law_numbers ?k__law_numbers fun _ _ _ _ _ _ us hl => match us, hl with | [_, _], _ => rfl
        (case a__law_numbers => k_is); (case l__law_numbers => k_is); (case c__law_numbers => k_is); (case k__law_numbers => k_is)
      case d__law_names =>
        refine' Cut.def_mk KX G ?a__law_names ?l__law_names ?c__law_names ?k__law_names fun _ _ _ _ _ _ us hl => match us, hl with | [_, _], _ => rfl
        (case a__law_names => k_is); (case l__law_names => k_is); (case c__law_names => k_is); (case k__law_names => k_is)
      case d__law_place =>
        refine' Cut.def_mk KX G ?a__law_place ?l__law_place ?c__law_place ?k__law_place fun _ _ _ _ _ _ us hl => match us, hl with | [_, _, _, _], _ => rfl
        (case a__law_place => k_is); (case l__law_place => k_is); (case c__law_place => k_is); (case k__law_place => k_is)
      case d__law_ties =>
        refine' Cut.def_mk KX G ?a__law_ties ?l__law_ties ?c__law_ties ?k__law_ties fun _ _ _ _ _ _ us hl => match us, hl with | [_, _, _, _, _], _ => rfl
        (case a__law_ties => k_is); (case l__law_ties => k_is); (case c__law_ties => k_is); (case k__law_ties => k_is)
      case d__law_web =>
        refine' Cut.def_mk KX G ?a__law_web ?l__law_web ?c__law_web ?k__law_web fun _ _ _ _ _ _ us hl => match us, hl with | [_, _, _], _ => rfl
        (case a__law_web => k_is); (case l__law_web => k_is); (case c__law_web => k_is); (case k__law_web => k_is)
      case d__law_low =>
        refine' Cut.def_mk KX G ?a__law_low ?l__law_low ?c__law_low ?k__law_low fun _ _ _ _ _ _ us hl => match us, hl with | [_, _], _ => rfl
        (case a__law_low => k_is); (case l__law_low => k_is); (case c__law_low => k_is); (case k__law_low => k_is)
      case d__law_price =>
        refine' Cut.def_mk KX G ?a__law_price ?l__law_price ?c__law_price ?k__law_price fun _ _ _ _ _ _ us hl => match us, hl with | [_, _, _], _ => rfl
        (case a__law_price => k_is); (case l__law_price => k_is); (case c__law_price => k_is); (case k__law_price => k_is)
      case d__law_drawn =>
        refine' Cut.def_mk KX G ?a__law_drawn ?l__law_drawn ?c__law_drawn ?k__law_drawn fun _ _ _ _ _ _ us hl => match us, hl with | [_], _ => rfl
        (case a__law_drawn => k_is); (case l__law_drawn => k_is); (case c__law_drawn => k_is); (case k__law_drawn => k_is)
      case d__law_by_shape =>
        refine' Cut.def_mk KX G ?a__law_by_shape ?l__law_by_shape ?c__law_by_shape ?k__law_by_shape fun _ _ _ _ _ _ us hl => match us, hl with | [_], _ => rfl
        (case a__law_by_shape => k_is); (case l__law_by_shape => k_is); (case c__law_by_shape => k_is); (case k__law_by_shape => k_is)
      case d__law_shape_right =>
        refine' Cut.def_mk KX G ?a__law_shape_right ?l__law_shape_right ?c__law_shape_right ?k__law_shape_right fun _ _ _ _ _ _ us hl => match us, hl with | [_, _, _], _ => rfl
        (case a__law_shape_right => k_is); (case l__law_shape_right => k_is); (case c__law_shape_right => k_is); (case k__law_shape_right => k_is)
      case d__law_greater =>
        refine' Cut.def_mk KX G ?a__law_greater ?l__law_greater ?c__law_greater ?k__law_greater fun _ _ _ _ _ _ us hl => match us, hl with | [_, _, _], _ => rfl
        (case a__law_greater => k_is); (case l__law_greater => k_is); (case c__law_greater => k_is); (case k__law_greater => k_is)
      case d__law_greater_right =>
        refine' Cut.def_mk KX G ?a__law_greater_right ?l__law_greater_right ?c__law_greater_right ?k__law_greater_right fun _ _ _ _ _ _ us hl => match us, hl with | [_, _, _], _ => rfl
        (case a__law_greater_right => k_is); (case l__law_greater_right => k_is); (case c__law_greater_right => k_is); (case k__law_greater_right => k_is)
      case d_law =>
        refine' Cut.def_mk KX G ?a_law ?l_law ?c_law ?k_law fun _ _ _ _ _ _ us hl => match us, hl with | [_], _ => rfl
        (case a_law => k_is); (case l_law => k_is); (case c_law => k_is); (case k_law => k_is)
      case m_isinstance => exact PySem.W.mg_none_of KX G (by k_is)
      case m_int => exact PySem.W.mg_none_of KX G (by k_is)
      case m_bool => exact PySem.W.mg_none_of KX G (by k_is)
      case m_tuple => exact PySem.W.mg_none_of KX G (by k_is)
      case m_abs => exact PySem.W.mg_none_of KX G (by k_is)
      case m_len => exact PySem.W.mg_none_of KX G (by k_is)
      case m_range => exact PySem.W.mg_none_of KX G (by k_is)
      case m_enumerate => exact PySem.W.mg_none_of KX G (by k_is)
      case m_zip => exact PySem.W.mg_none_of KX G (by k_is)
      case m_list => exact PySem.W.mg_none_of KX G (by k_is)
      case m_dict => exact PySem.W.mg_none_of KX G (by k_is)
      case m_sorted => exact PySem.W.mg_none_of KX G (by k_is)
      case m_min => exact PySem.W.mg_none_of KX G (by k_is)
      case m_max => exact PySem.W.mg_none_of KX G (by k_is)
      case m_all => exact PySem.W.mg_none_of KX G (by k_is)
      case m_set => exact PySem.W.mg_none_of KX G (by k_is)
      case c_NOUGHT_webs =>
        refine' Cut.const_mk KX G ?a_NOUGHT_webs ?l_NOUGHT_webs ?u_NOUGHT_webs ?v_NOUGHT_webs ?w_NOUGHT_webs
        (case a_NOUGHT_webs => k_is); (case l_NOUGHT_webs => k_is); (case u_NOUGHT_webs => rfl); (case v_NOUGHT_webs => rfl); (case w_NOUGHT_webs => rfl)
      case c_NOUGHT_streams =>
        refine' Cut.const_mk KX G ?a_NOUGHT_streams ?l_NOUGHT_streams ?u_NOUGHT_streams ?v_NOUGHT_streams ?w_NOUGHT_streams
        (case a_NOUGHT_streams => k_is); (case l_NOUGHT_streams => k_is); (case u_NOUGHT_streams => rfl); (case v_NOUGHT_streams => rfl); (case w_NOUGHT_streams => rfl)
    (case a => k_is); (case l => k_is); (case c => k_is); (case k => k_is)
