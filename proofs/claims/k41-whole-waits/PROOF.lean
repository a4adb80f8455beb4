import PyProof.Rows.All
import Wide.All
import OpenK.AllK
import Wide.FinOn
import KE.KStateDown
import HandS.Head0
import HandS.Head1
import HandS.Head2
import HandS.Head3
import HandS.HeadHook1
import HandS.HeadHook2
import HandS.HeadHook3
import HandS.HeadHook4
import HandS.HeadWalk
import HandS.NestedK
import HandS.ForMost
import HandS.Gcd
import HandS.Wide
import HandS.Deep
import HandS.Zip
import HandS.Flow
import HandS.Lambda
import HandS.Defaults
import HandS.Exc
import HandS.TryOnly
import HandS.ExcOwn
import HandS.WordsExc
import HandS.Nested
import HandS.Keys
import KE.SortKeyHeap
import PySem.Challenge.RW_floodmark_k41_whole_waits_reach_exactly
section
set_option Elab.async false
set_option linter.all false
set_option maxRecDepth 100000
set_option maxHeartbeats 1000000
/-! The text by places. -/
namespace FT
open PySem L2
def top (i : Nat) : Stmt := PySem.Challenge.pw_floodmark_k41_whole_waits_reach_exactly.main.body.getD i (.Pass ⟨0, 0, 0, 0⟩)
end FT
end
section
set_option Elab.async false
set_option linter.all false
set_option maxRecDepth 100000
set_option maxHeartbeats 0
/-! the head: what the top has left -/
namespace FH
open PySem PySem.Spec PyProof.Rows L2 FT
abbrev R : PySem.W.OpenRow := PySem.W.OpenLaw.row PySem.Challenge.rw_floodmark_k41_whole_waits_reach_exactly
def names0 : List Str := ["__name__", "FloodError", "OutOfRange", "BadRun", "common_divisor", "primitive", "dot", "combined", "pivot_of", "cleared", "echelon", "reduced", "Builder", "dual", "MAX_VARIABLES", "check_count", "horizon", "settled", "polyhedron", "generators", "spanned", "has_point", "meet", "extended", "location_at", "invariant_of", "directions_of", "inside", "stretched", "wait_forward"]
def names1 : List Str := ["wait_backward", "is_state", "joined", "require", "after_wait", "after_jump", "leads_to", "_law_cell", "_law_digits", "_law_dot", "_law_primitive", "_law_unit", "_law_location", "_law_same", "_law_jump", "_law_box", "_law_system", "_law_points", "_law_holds", "_law_moved", "_law_waits"]
def names : List Str := names0 ++ names1
def nd (x : Str) (i : Nat) : He.DefD := ⟨(x, none), x, x, defArgs (top i), defBody (top i), defScope (top i), [], []⟩
def nf (x : Str) (i d : Nat) : He.DefD := ⟨(x, none), x, x, defArgs (top i), defBody (top i), defScope (top i), (List.range d).map fun j => .adr (He.dflAt (x, none) j), []⟩
def nm (x q : Str) (j : Nat) : He.DefD := ⟨("Builder", some x), x, q, defArgs (inClass (top 15) j), defBody (inClass (top 15) j), defScope (inClass (top 15) j), [], []⟩
def fn0 : List He.DefD := [nd "common_divisor" 6, nd "primitive" 7, nd "dot" 8, nd "combined" 9, nd "pivot_of" 10, nd "cleared" 11, nd "echelon" 12, nd "reduced" 13, nd "dual" 16, nd "check_count" 19, nd "horizon" 20, nd "settled" 21, nf "polyhedron" 22 1, nd "generators" 23, nf "spanned" 24 2, nd "has_point" 25]
def fn1 : List He.DefD := [nd "meet" 26, nd "extended" 27, nd "location_at" 29, nd "invariant_of" 30, nd "directions_of" 31, nd "inside" 33, nd "stretched" 34, nd "wait_forward" 35, nd "wait_backward" 36, nd "is_state" 38, nd "require" 40, nd "after_wait" 41, nd "leads_to" 43, nd "_law_cell" 45, nd "_law_digits" 46, nd "_law_dot" 47]
def fn2 : List He.DefD := [nd "_law_primitive" 48, nd "_law_unit" 49, nd "_law_location" 50, nd "_law_same" 51, nd "_law_jump" 52, nd "_law_box" 53, nd "_law_system" 54, nd "_law_points" 55, nd "_law_holds" 56, nd "_law_moved" 57, nd "_law_waits" 58, nd "law" 59, nm "__init__" "Builder.__init__" 0, nm "turn_line" "Builder.turn_line" 1, nm "add" "Builder.add" 2, nm "joined" "Builder.joined" 3]
def fn3 : List He.DefD := [nm "are_neighbours" "Builder.are_neighbours" 4]
def fn : List He.DefD := fn0 ++ (fn1 ++ (fn2 ++ (fn3)))
def fa0 : List He.Fa := [.glo "common_divisor", .glo "primitive", .glo "dot", .glo "combined", .glo "pivot_of", .glo "cleared", .glo "echelon", .glo "reduced", .glo "dual", .glo "check_count", .glo "horizon", .glo "settled", .glo "polyhedron", .glo "generators", .glo "spanned", .glo "has_point"]
def fa1 : List He.Fa := [.glo "meet", .glo "extended", .glo "location_at", .glo "invariant_of", .glo "directions_of", .glo "inside", .glo "stretched", .glo "wait_forward", .glo "wait_backward", .glo "is_state", .glo "require", .glo "after_wait", .glo "leads_to", .glo "_law_cell", .glo "_law_digits", .glo "_law_dot"]
def fa2 : List He.Fa := [.glo "_law_primitive", .glo "_law_unit", .glo "_law_location", .glo "_law_same", .glo "_law_jump", .glo "_law_box", .glo "_law_system", .glo "_law_points", .glo "_law_holds", .glo "_law_moved", .glo "_law_waits", .glo "law", .glo "Builder", .glo "BadRun", .free "list", .free "len"]
def fa3 : List He.Fa := [.free "range", .free "zip", .free "sum", .free "all", .free "any", .free "enumerate", .free "sorted", .free "abs", .free "int", .int "MAX_VARIABLES" 8, .cls "Builder", .noat "Builder" "lines", .noat "Builder" "rays", .noat "Builder" "count", .meth "Builder" "__init__", .meth "Builder" "turn_line"]
def fa4 : List He.Fa := [.meth "Builder" "add", .meth "Builder" "joined", .meth "Builder" "are_neighbours", .mkr "Builder", .exc "BadRun", .exm "BadRun" "BadRun" true]
def fa : List He.Fa := fa0 ++ (fa1 ++ (fa2 ++ (fa3 ++ (fa4))))
def unitB (K : PySem.W.Frag) (a : Addr) : Bool := match K.lookup a with
  | some ⟨.type c, _, .seq its _, _⟩ => decide (c = "tuple") && its.isEmpty
  | _ => false
def ex (K : PySem.W.Frag) : Bool := He.eqO (PySem.W.nsIn K mainGlobals "gcd") (some (some (.builtin "math.gcd"))) && (unitB K (He.dflAt ("polyhedron", none) 0 K) && (unitB K (He.dflAt ("spanned", none) 0 K) && unitB K (He.dflAt ("spanned", none) 1 K)))
def tf : List He.Defn := [("echelon", none)]
abbrev hk : PySem.W.Hook := He.hookX 4 fa fn [] tf ex
def ob (s : PySem.W.SharedT) : He.AlX := He.obsX 4 fa fn [] tf ex (HandSHeadRun.getT s)
theorem ob_eq (s : PySem.W.SharedT) : ob s = hk.obs s.abs := He.obsX_eq (HandSHeadRun.getT_eq s)
theorem run (w : World) : HandSHeadRun.RunEqI R (PySem.W.view R.prog [0, 59]) hk ob 4000 names w := by
  unfold HandSHeadRun.RunEqI
  kernel_rfl
end FH
end
section
set_option linter.all false
/-! Vectors as lists of ints; dot, comb, primitive; the cone hull Gen; faces. Plain Lean, no program. -/
namespace FM
abbrev Vec := List Int

def dot : Vec → Vec → Int
  | a :: u, b :: v => a * b + dot u v
  | _, _ => 0
/-- first * u + second * v -/
def comb (a : Int) (u : Vec) (b : Int) (v : Vec) : Vec := List.zipWith (fun x y => a * x + b * y) u v
def smul (k : Int) (v : Vec) : Vec := v.map fun x => k * x
def neg (v : Vec) : Vec := v.map fun x => -x
def zeros (n : Nat) : Vec := List.replicate n 0

@[simp] theorem dot_nil_left (v : Vec) : dot [] v = 0 := by cases v <;> rfl
@[simp] theorem dot_nil_right (v : Vec) : dot v [] = 0 := by cases v <;> rfl
@[simp] theorem dot_cons (a b : Int) (u v : Vec) : dot (a :: u) (b :: v) = a * b + dot u v := rfl
@[simp] theorem comb_nil_left (a b : Int) (v : Vec) : comb a [] b v = [] := rfl
@[simp] theorem comb_cons (a b x y : Int) (u v : Vec) : comb a (x :: u) b (y :: v) = (a * x + b * y) :: comb a u b v := rfl

theorem dot_comm : ∀ u v : Vec, dot u v = dot v u
  | [], v => by simp
  | _ :: _, [] => by simp
  | a :: u, b :: v => by simp only [dot_cons]; rw [dot_comm u v, Int.mul_comm]

@[simp] theorem comb_length (a b : Int) (u v : Vec) : (comb a u b v).length = min u.length v.length := by simp [comb]
theorem comb_len {a b : Int} {u v : Vec} {n : Nat} (hu : u.length = n) (hv : v.length = n) : (comb a u b v).length = n := by
  rw [comb_length, hu, hv, Nat.min_self]
@[simp] theorem smul_length (k : Int) (v : Vec) : (smul k v).length = v.length := by simp [smul]
@[simp] theorem neg_length (v : Vec) : (neg v).length = v.length := by simp [neg]
@[simp] theorem zeros_length (n : Nat) : (zeros n).length = n := by simp [zeros]

theorem dot_comb : ∀ {u v : Vec} (w : Vec) (a b : Int), u.length = v.length → dot w (comb a u b v) = a * dot w u + b * dot w v
  | [], [], w, a, b, _ => by simp
  | x :: u, y :: v, [], a, b, _ => by simp
  | x :: u, y :: v, z :: w, a, b, h => by
    simp only [comb_cons, dot_cons]
    rw [dot_comb w a b (by simpa using h)]
    grind
theorem dot_smul : ∀ (w v : Vec) (k : Int), dot w (smul k v) = k * dot w v
  | [], _, k => by simp
  | _ :: _, [], k => by simp [smul]
  | z :: w, y :: v, k => by
    have := dot_smul w v k
    simp only [smul, List.map_cons, dot_cons] at this ⊢
    rw [this]
    grind
theorem dot_neg (w v : Vec) : dot w (neg v) = - dot w v := by
  have h := dot_smul w v (-1)
  have e : smul (-1) v = neg v := by simp [smul, neg]
  rw [e] at h
  grind
theorem dot_zeros : ∀ (w : Vec) (n : Nat), dot w (zeros n) = 0
  | [], n => by simp
  | _ :: _, 0 => by simp [zeros]
  | z :: w, n + 1 => by
    have := dot_zeros w n
    simp only [zeros, List.replicate_succ, dot_cons] at this ⊢
    rw [this]; simp

theorem dot_self_nonneg : ∀ v : Vec, 0 ≤ dot v v
  | [] => by simp
  | x :: v => by
    have h := dot_self_nonneg v
    have h2 : 0 ≤ x * x := by
      rcases Int.le_total 0 x with h | h
      · exact Int.mul_nonneg h h
      · exact Int.mul_nonneg_of_nonpos_of_nonpos h h
    simp only [dot_cons]
    omega
theorem sq_nonneg (x : Int) : 0 ≤ x * x := by
  rcases Int.le_total 0 x with h | h
  · exact Int.mul_nonneg h h
  · exact Int.mul_nonneg_of_nonpos_of_nonpos h h
theorem zero_of_dot_self : ∀ v : Vec, dot v v = 0 → v = zeros v.length
  | [], _ => rfl
  | x :: v, h => by
    simp only [dot_cons] at h
    have h1 := dot_self_nonneg v
    have h2 := sq_nonneg x
    have h3 : x * x = 0 := by omega
    have h4 : x = 0 := by
      rcases Int.mul_eq_zero.mp h3 with h | h <;> exact h
    have h5 := zero_of_dot_self v (by omega)
    rw [h4]
    show (0 : Int) :: v = zeros (v.length + 1)
    unfold zeros at h5 ⊢
    rw [List.replicate_succ, ← h5]
/-- two vectors are one if they give the same dot products -/
theorem ext_dot {u v : Vec} (hl : u.length = v.length) (h : ∀ w, w.length = u.length → dot w u = dot w v) : u = v := by
  have e : comb 1 u (-1) v = zeros u.length := by
    have z := zero_of_dot_self (comb 1 u (-1) v) (by
      rw [dot_comb _ _ _ hl]
      have := h (comb 1 u (-1) v) (by rw [comb_length, hl, Nat.min_self])
      rw [this]; grind)
    rw [z, comb_length, hl, Nat.min_self]
  revert e
  clear h
  induction u generalizing v with
  | nil =>
    intro _
    cases v with
    | nil => rfl
    | cons => simp at hl
  | cons x u ih =>
    cases v with
    | nil => simp at hl
    | cons y v =>
      intro e
      rw [comb_cons] at e
      simp only [zeros, List.length_cons, List.replicate_succ, List.cons.injEq] at e
      have := ih (v := v) (by simpa using hl) e.2
      rw [this]
      have : x = y := by omega
      rw [this]

/-! ### gcd, primitive -/
def gcdL (v : Vec) : Nat := v.foldl (fun d x => Nat.gcd d x.natAbs) 0
theorem foldl_gcd (v : Vec) : ∀ d : Nat, v.foldl (fun d x => Nat.gcd d x.natAbs) d = Nat.gcd d (gcdL v) := by
  unfold gcdL
  induction v with
  | nil => intro d; simp
  | cons x v ih =>
    intro d
    simp only [List.foldl_cons, Nat.gcd_zero_left]
    rw [ih, ih x.natAbs, Nat.gcd_assoc]
@[simp] theorem gcdL_nil : gcdL [] = 0 := rfl
@[simp] theorem gcdL_cons (x : Int) (v : Vec) : gcdL (x :: v) = Nat.gcd x.natAbs (gcdL v) := by
  show (x :: v).foldl (fun d x => Nat.gcd d x.natAbs) 0 = _
  simp only [List.foldl_cons, Nat.gcd_zero_left]
  exact foldl_gcd v _
theorem gcdL_dvd : ∀ (v : Vec) (x : Int), x ∈ v → (gcdL v : Int) ∣ x
  | y :: v, x, h => by
    rw [gcdL_cons]
    rcases List.mem_cons.mp h with rfl | h
    · exact Int.ofNat_dvd_left.mpr (Nat.gcd_dvd_left _ _)
    · exact Int.dvd_trans (Int.ofNat_dvd.mpr (Nat.gcd_dvd_right _ _)) (gcdL_dvd v x h)
theorem dvd_gcdL {d : Nat} : ∀ (v : Vec), (∀ x ∈ v, (d : Int) ∣ x) → d ∣ gcdL v
  | [], _ => by simp
  | y :: v, h => by
    rw [gcdL_cons]
    exact Nat.dvd_gcd (Int.ofNat_dvd_left.mp (h y (by simp))) (dvd_gcdL v fun x hx => h x (by simp [hx]))
theorem gcdL_smul (k : Int) : ∀ v : Vec, gcdL (smul k v) = k.natAbs * gcdL v
  | [] => by simp [smul]
  | x :: v => by
    have := gcdL_smul k v
    simp only [smul, List.map_cons, gcdL_cons] at this ⊢
    rw [this, Int.natAbs_mul, Nat.gcd_mul_left]
theorem gcdL_zero {v : Vec} (h : gcdL v = 0) : v = zeros v.length := by
  induction v with
  | nil => rfl
  | cons x v ih =>
    rw [gcdL_cons] at h
    have h1 := Nat.eq_zero_of_gcd_eq_zero_left h
    have h2 := Nat.eq_zero_of_gcd_eq_zero_right h
    have h3 : x = 0 := by omega
    have := ih h2
    unfold zeros at this ⊢
    rw [List.length_cons, List.replicate_succ, ← this, h3]
theorem gcdL_zeros (n : Nat) : gcdL (zeros n) = 0 := by
  induction n with
  | zero => rfl
  | succ n ih => unfold zeros at ih ⊢; rw [List.replicate_succ, gcdL_cons, ih]; rfl

def primitive (v : Vec) : Vec := if gcdL v ≤ 1 then v else v.map fun x => x / (gcdL v : Int)
theorem primitive_length (v : Vec) : (primitive v).length = v.length := by unfold primitive; split <;> simp
/-- v is a positive multiple of its primitive -/
theorem primitive_spec (v : Vec) : ∃ g : Int, 0 < g ∧ v = smul g (primitive v) := by
  unfold primitive
  split
  · exact ⟨1, by decide, by simp [smul]⟩
  · refine ⟨(gcdL v : Int), by omega, ?_⟩
    unfold smul
    rw [List.map_map]
    have : ∀ x ∈ v, ((fun x => (gcdL v : Int) * x) ∘ fun x => x / (gcdL v : Int)) x = x := fun x hx => by
      show (gcdL v : Int) * (x / (gcdL v : Int)) = x
      exact Int.mul_ediv_cancel' (gcdL_dvd v x hx)
    conv => lhs; rw [← List.map_id v]
    exact List.map_congr_left fun x hx => (this x hx).symm
theorem primitive_gcd {v : Vec} (h : gcdL v ≠ 0) : gcdL (primitive v) = 1 := by
  obtain ⟨g, hg, e⟩ := primitive_spec v
  by_cases h1 : gcdL v ≤ 1
  · unfold primitive; rw [if_pos h1]; omega
  · have e2 : g = (gcdL v : Int) ∨ True := .inr trivial
    have : v = smul (gcdL v : Int) (primitive v) := by
      unfold primitive
      rw [if_neg h1]
      unfold smul
      rw [List.map_map]
      conv => lhs; rw [← List.map_id v]
      refine List.map_congr_left fun x hx => ?_
      show x = (gcdL v : Int) * (x / (gcdL v : Int))
      exact (Int.mul_ediv_cancel' (gcdL_dvd v x hx)).symm
    have e3 := congrArg gcdL this
    rw [gcdL_smul, Int.natAbs_natCast] at e3
    have : gcdL v * 1 = gcdL v * gcdL (primitive v) := by omega
    exact (Nat.eq_of_mul_eq_mul_left (by omega) this).symm
theorem smul_smul (a b : Int) (v : Vec) : smul a (smul b v) = smul (a * b) v := by simp [smul, Int.mul_assoc]
theorem smul_one (v : Vec) : smul 1 v = v := by simp [smul]
theorem smul_inj {k : Int} (hk : k ≠ 0) : ∀ {u v : Vec}, smul k u = smul k v → u = v
  | [], [], _ => rfl
  | [], _ :: _, h => by simp [smul] at h
  | _ :: _, [], h => by simp [smul] at h
  | x :: u, y :: v, h => by
    simp only [smul, List.map_cons, List.cons.injEq] at h
    rw [smul_inj hk (u := u) (v := v) h.2, Int.eq_of_mul_eq_mul_left hk h.1]
/-- positive multiples that agree, both primitive: equal -/
theorem prim_unique {a b : Int} {u v : Vec} (ha : 0 < a) (hb : 0 < b) (hu : gcdL u = 1) (hv : gcdL v = 1) (h : smul a u = smul b v) : u = v := by
  have e := congrArg gcdL h
  rw [gcdL_smul, gcdL_smul, hu, hv] at e
  have : a = b := by omega
  subst this
  exact smul_inj (by omega) h
theorem primitive_of_gcd1 {v : Vec} (h : gcdL v = 1) : primitive v = v := by
  unfold primitive
  rw [if_pos (by omega)]

/-! ### the cone hull -/
inductive Gen (n : Nat) (L R : List Vec) : Vec → Prop
  | zero : Gen n L R (zeros n)
  | line {l : Vec} : l ∈ L → Gen n L R l
  | nline {l : Vec} : l ∈ L → Gen n L R (neg l)
  | ray {r : Vec} : r ∈ R → Gen n L R r
  | comb {u v : Vec} {a b : Int} : 0 ≤ a → 0 ≤ b → Gen n L R u → Gen n L R v → Gen n L R (comb a u b v)
  | div {k : Int} {v : Vec} : 0 < k → v.length = n → Gen n L R (smul k v) → Gen n L R v

def Lens (n : Nat) (X : List Vec) : Prop := ∀ x ∈ X, x.length = n
variable {n : Nat} {L R L' R' : List Vec} {u v w : Vec}
theorem Gen.len (hL : Lens n L) (hR : Lens n R) (h : Gen n L R v) : v.length = n := by
  induction h with
  | zero => simp
  | line h => exact hL _ h
  | nline h => rw [neg_length]; exact hL _ h
  | ray h => exact hR _ h
  | comb _ _ _ _ i j => exact comb_len i j
  | div _ h _ _ => exact h
theorem Gen.mono (h : Gen n L R v) (hL : ∀ l ∈ L, Gen n L' R' l ∧ Gen n L' R' (neg l)) (hR : ∀ r ∈ R, Gen n L' R' r) : Gen n L' R' v := by
  induction h with
  | zero => exact .zero
  | line h => exact (hL _ h).1
  | nline h => exact (hL _ h).2
  | ray h => exact hR _ h
  | comb ha hb _ _ i j => exact .comb ha hb i j
  | div hk hl _ i => exact .div hk hl i
theorem Gen.sub (h : Gen n L R v) (hR : ∀ r ∈ R, r ∈ R') : Gen n L R' v := h.mono (fun _ h => ⟨.line h, .nline h⟩) fun _ h => .ray (hR _ h)
theorem neg_smul (v : Vec) : neg v = smul (-1) v := by simp [smul, neg]
theorem smul_comb (k : Int) (v : Vec) : smul k v = FM.comb k v 0 v := by
  unfold smul FM.comb
  induction v with
  | nil => rfl
  | cons x v ih => simp only [List.map_cons, List.zipWith_cons_cons, ih]; simp
theorem Gen.smul {k : Int} (hk : 0 ≤ k) (h : Gen n L R v) : Gen n L R (FM.smul k v) := by
  rw [smul_comb]; exact .comb hk (Int.le_refl 0) h h
/-- the span is closed under negation -/
theorem neg_zeros (n : Nat) : neg (zeros n) = zeros n := by simp [neg, zeros]
theorem neg_comb (a b : Int) : ∀ u v : Vec, neg (FM.comb a u b v) = FM.comb a (neg u) b (neg v)
  | [], _ => rfl
  | _ :: _, [] => by simp [neg, FM.comb]
  | x :: u, y :: v => by
    have := neg_comb a b u v
    simp only [neg, FM.comb, List.map_cons, List.zipWith_cons_cons] at this ⊢
    rw [this]
    congr 1
    grind
theorem neg_neg (v : Vec) : neg (neg v) = v := by
  induction v with
  | nil => rfl
  | cons x v ih => simp only [neg, List.map_cons] at ih ⊢; rw [ih, Int.neg_neg]
theorem neg_smul' (k : Int) (v : Vec) : neg (FM.smul k v) = FM.smul k (neg v) := by
  induction v with
  | nil => rfl
  | cons x v ih => simp only [neg, FM.smul, List.map_cons] at ih ⊢; rw [ih]; congr 1; grind
theorem Gen.neg_span (h : Gen n L [] v) : Gen n L [] (neg v) := by
  induction h with
  | zero => rw [neg_zeros]; exact .zero
  | line h => exact .nline h
  | nline h => rw [neg_neg]; exact .line h
  | ray h => simp at h
  | comb ha hb _ _ i j => rw [neg_comb]; exact .comb ha hb i j
  | div hk hl _ i => exact .div hk (by simpa using hl) (by rw [← neg_smul']; exact i)
theorem comb_neg_right (a b : Int) (u v : Vec) : FM.comb a u b (neg v) = FM.comb a u (-b) v := by
  unfold FM.comb neg
  rw [List.zipWith_map_right]
  congr 1
  funext x y
  grind
theorem comb_neg_left (a b : Int) (u v : Vec) : FM.comb a (neg u) b v = FM.comb (-a) u b v := by
  unfold FM.comb neg
  rw [List.zipWith_map_left]
  congr 1
  funext x y
  grind
theorem Gen.span_comb {a b : Int} (hu : Gen n L [] u) (hv : Gen n L [] v) : Gen n L [] (FM.comb a u b v) := by
  rcases Int.le_total 0 a with ha | ha <;> rcases Int.le_total 0 b with hb | hb
  · exact .comb ha hb hu hv
  · have := Gen.comb (b := -b) ha (by omega) hu hv.neg_span
    rwa [comb_neg_right, Int.neg_neg] at this
  · have := Gen.comb (a := -a) (by omega) hb hu.neg_span hv
    rwa [comb_neg_left, Int.neg_neg] at this
  · have := Gen.comb (a := -a) (b := -b) (by omega) (by omega) hu.neg_span hv.neg_span
    rwa [comb_neg_left, comb_neg_right, Int.neg_neg, Int.neg_neg] at this
theorem Gen.span_smul {k : Int} (hu : Gen n L [] u) : Gen n L [] (FM.smul k u) := by rw [smul_comb]; exact hu.span_comb hu
theorem Gen.of_span (h : Gen n L [] v) : Gen n L R v := h.sub fun _ h => nomatch h

/-! ### signs and faces -/
theorem Gen.dot_nonneg {c : Vec} (hl : Lens n L) (hr : Lens n R) (hL : ∀ l ∈ L, dot c l = 0) (hR : ∀ r ∈ R, 0 ≤ dot c r) (h : Gen n L R v) : 0 ≤ dot c v := by
  induction h with
  | zero => rw [dot_zeros]; exact Int.le_refl 0
  | line h => rw [hL _ h]; exact Int.le_refl 0
  | nline h => rw [dot_neg, hL _ h]; exact Int.le_refl 0
  | ray h => exact hR _ h
  | comb ha hb hu hv i j =>
    rw [dot_comb _ _ _ ((hu.len hl hr).trans (hv.len hl hr).symm)]
    have := Int.mul_nonneg ha i
    have := Int.mul_nonneg hb j
    omega
  | div hk _ _ i =>
    rw [dot_smul] at i
    exact Int.nonneg_of_mul_nonneg_right i hk
theorem Gen.dot_zero {c : Vec} (hl : Lens n L) (hr : Lens n R) (hL : ∀ l ∈ L, dot c l = 0) (hR : ∀ r ∈ R, dot c r = 0) (h : Gen n L R v) : dot c v = 0 := by
  induction h with
  | zero => rw [dot_zeros]
  | line h => exact hL _ h
  | nline h => rw [dot_neg, hL _ h]; rfl
  | ray h => exact hR _ h
  | comb ha hb hu hv i j =>
    rw [dot_comb _ _ _ ((hu.len hl hr).trans (hv.len hl hr).symm), i, j]; grind
  | div hk _ _ i =>
    rw [dot_smul] at i
    rcases Int.mul_eq_zero.mp i with h | h
    · omega
    · exact h
/-- every condition of P that is tight at u is tight at v -/
def TS (P : List Vec) (u v : Vec) : Prop := ∀ p ∈ P, dot p u = 0 → dot p v = 0
theorem TS.refl (P : List Vec) (u : Vec) : TS P u u := fun _ _ h => h
theorem TS.trans {P : List Vec} {u v w : Vec} (a : TS P u v) (b : TS P v w) : TS P u w := fun p hp h => b p hp (a p hp h)
theorem pos_of_mul {k x : Int} (hk : 0 < k) (h : k * x = 0) : x = 0 := by
  rcases Int.mul_eq_zero.mp h with h | h
  · omega
  · exact h
/-- a point of the hull is in the hull of the rays of its face -/
theorem Gen.face {P : List Vec} (hl : Lens n L) (hr : Lens n R) (hL : ∀ p ∈ P, ∀ l ∈ L, dot p l = 0) (hR : ∀ p ∈ P, ∀ r ∈ R, 0 ≤ dot p r) (h : Gen n L R v) :
    ∃ F : List Vec, (∀ r ∈ F, r ∈ R ∧ TS P v r) ∧ Gen n L F v := by
  induction h with
  | zero => exact ⟨[], fun _ h => (nomatch h), .zero⟩
  | line h => exact ⟨[], fun _ h => (nomatch h), .line h⟩
  | nline h => exact ⟨[], fun _ h => (nomatch h), .nline h⟩
  | @ray r h => exact ⟨[r], fun x hx => by
      rw [List.mem_singleton] at hx
      subst hx
      exact ⟨h, TS.refl _ _⟩, .ray (by simp)⟩
  | @comb u v a b ha hb hu hv i j =>
    obtain ⟨F, hF, gF⟩ := i
    obtain ⟨G, hG, gG⟩ := j
    have lu := hu.len hl hr
    have lv := hv.len hl hr
    have key : ∀ p ∈ P, dot p (FM.comb a u b v) = 0 → a * dot p u = 0 ∧ b * dot p v = 0 := fun p hp e => by
      rw [dot_comb _ _ _ (lu.trans lv.symm)] at e
      have h1 := Int.mul_nonneg ha (hu.dot_nonneg hl hr (hL p hp) (hR p hp))
      have h2 := Int.mul_nonneg hb (hv.dot_nonneg hl hr (hL p hp) (hR p hp))
      omega
    by_cases ha0 : a = 0
    · by_cases hb0 : b = 0
      · refine ⟨[], fun _ h => (nomatch h), ?_⟩
        have : FM.comb a u b v = zeros n := by
          refine ext_dot (by rw [comb_len lu lv, zeros_length]) fun w _ => ?_
          rw [dot_comb _ _ _ (lu.trans lv.symm), ha0, hb0, dot_zeros]; simp
        rw [this]; exact .zero
      · refine ⟨G, fun r hr' => ⟨(hG r hr').1, fun p hp e => (hG r hr').2 p hp (pos_of_mul (by omega) (key p hp e).2)⟩, ?_⟩
        have : FM.comb a u b v = FM.comb b v 0 v := by
          refine ext_dot (by rw [comb_len lu lv, comb_len lv lv]) fun w _ => ?_
          rw [dot_comb _ _ _ (lu.trans lv.symm), dot_comb _ _ _ rfl, ha0]; grind
        rw [this]; exact .comb hb (Int.le_refl 0) gG gG
    · by_cases hb0 : b = 0
      · refine ⟨F, fun r hr' => ⟨(hF r hr').1, fun p hp e => (hF r hr').2 p hp (pos_of_mul (by omega) (key p hp e).1)⟩, ?_⟩
        have : FM.comb a u b v = FM.comb a u 0 u := by
          refine ext_dot (by rw [comb_len lu lv, comb_len lu lu]) fun w _ => ?_
          rw [dot_comb _ _ _ (lu.trans lv.symm), dot_comb _ _ _ rfl, hb0]; grind
        rw [this]; exact .comb ha (Int.le_refl 0) gF gF
      · refine ⟨F ++ G, fun r hr' => ?_, .comb ha hb (gF.sub fun r h => by simp [h]) (gG.sub fun r h => by simp [h])⟩
        rcases List.mem_append.mp hr' with h | h
        · exact ⟨(hF r h).1, fun p hp e => (hF r h).2 p hp (pos_of_mul (by omega) (key p hp e).1)⟩
        · exact ⟨(hG r h).1, fun p hp e => (hG r h).2 p hp (pos_of_mul (by omega) (key p hp e).2)⟩
  | @div k v hk hv h i =>
    obtain ⟨F, hF, gF⟩ := i
    refine ⟨F, fun r hr' => ⟨(hF r hr').1, fun p hp e => (hF r hr').2 p hp (by rw [dot_smul, e]; simp)⟩, .div hk hv gF⟩
/-- the hull of one ray -/
theorem Gen.one {r : Vec} (hl : Lens n L) (hr : r.length = n) (h : Gen n L [r] v) : ∃ k a : Int, 0 < k ∧ 0 ≤ a ∧ Gen n L [] (FM.comb k v (-a) r) := by
  have hR : Lens n [r] := fun x hx => by rw [List.mem_singleton] at hx; rw [hx]; exact hr
  have small : ∀ l, Gen n L [] l → l.length = n → ∃ k a : Int, 0 < k ∧ 0 ≤ a ∧ Gen n L [] (FM.comb k l (-a) r) := fun l hl' e => ⟨1, 0, by decide, Int.le_refl 0, by
    have : FM.comb 1 l (-0) r = l := by
      refine ext_dot (by rw [comb_len e hr, e]) fun w _ => ?_
      rw [dot_comb _ _ _ (e.trans hr.symm)]; grind
    rw [this]; exact hl'⟩
  induction h with
  | zero => exact small _ .zero (by simp)
  | line h => exact small _ (.line h) (hl _ h)
  | nline h => exact small _ (.nline h) (by rw [neg_length]; exact hl _ h)
  | ray h =>
    rw [List.mem_singleton] at h
    subst h
    refine ⟨1, 1, by decide, by decide, ?_⟩
    rename_i r
    have : FM.comb 1 r (-1) r = zeros n := by
      refine ext_dot (by rw [comb_len hr hr]; simp) fun w _ => ?_
      rw [dot_comb _ _ _ rfl, dot_zeros]; grind
    rw [this]; exact .zero
  | @comb u v a b ha hb hu hv i j =>
    obtain ⟨k1, a1, hk1, ha1, g1⟩ := i
    obtain ⟨k2, a2, hk2, ha2, g2⟩ := j
    have lu := hu.len hl hR
    have lv := hv.len hl hR
    refine ⟨k1 * k2, a * k2 * a1 + b * k1 * a2, Int.mul_pos hk1 hk2, ?_, ?_⟩
    · have := Int.mul_nonneg (Int.mul_nonneg ha (Int.le_of_lt hk2)) ha1
      have := Int.mul_nonneg (Int.mul_nonneg hb (Int.le_of_lt hk1)) ha2
      omega
    · have := Gen.comb (a := a * k2) (b := b * k1) (Int.mul_nonneg ha (Int.le_of_lt hk2)) (Int.mul_nonneg hb (Int.le_of_lt hk1)) g1 g2
      have e : FM.comb (a * k2) (FM.comb k1 u (-a1) r) (b * k1) (FM.comb k2 v (-a2) r) = FM.comb (k1 * k2) (FM.comb a u b v) (-(a * k2 * a1 + b * k1 * a2)) r := by
        refine ext_dot (by simp [lu, lv, hr]) fun w _ => ?_
        rw [dot_comb _ _ _ (by simp [lu, lv, hr]), dot_comb _ _ _ (by simp [lu, lv, hr]), dot_comb _ _ _ (by simp [lu, lv, hr]), dot_comb _ _ _ (by simp [lu, lv, hr]), dot_comb _ _ _ (by simp [lu, lv, hr])]
        grind
      rw [← e]; exact this
  | @div k v hk hv h i =>
    obtain ⟨k1, a1, hk1, ha1, g1⟩ := i
    refine ⟨k1 * k, a1, Int.mul_pos hk1 hk, ha1, ?_⟩
    have e : FM.comb k1 (FM.smul k v) (-a1) r = FM.comb (k1 * k) v (-a1) r := by
      refine ext_dot (by simp [hv, hr]) fun w _ => ?_
      rw [dot_comb _ _ _ (by simp [hv, hr]), dot_comb _ _ _ (by simp [hv, hr]), dot_smul]
      grind
    rw [← e]; exact g1
end FM
end
section
set_option linter.all false
/-! The builder of cones (double description), and that one step keeps: sound, complete, incomparable. -/
namespace FM

/-! ### the builder, as plain functions -/
structure Bld where
  lines : List Vec
  rays : List (Vec × Nat)
  count : Nat

def findTurn (c : Vec) : List Vec → Option (List Vec × Vec × List Vec)
  | [] => none
  | l :: ls => if dot c l ≠ 0 then some ([], l, ls) else
    match findTurn c ls with
    | none => none
    | some (a, x, b) => some (l :: a, x, b)
/-- what a vector becomes when the line l is turned (value = c . l) -/
def adj (c : Vec) (value : Int) (l o : Vec) : Vec := primitive (comb value o (-dot c o) l)
def flipped (c l : Vec) : Vec := if dot c l < 0 then neg l else l
def turnLine (c : Vec) (B : Bld) : Option (Vec × List Vec × List (Vec × Nat)) :=
  match findTurn c B.lines with
  | none => none
  | some (a, l, b) => some (flipped c l, (a ++ b).map (adj c (dot c (flipped c l)) (flipped c l)), B.rays.map fun r => (adj c (dot c (flipped c l)) (flipped c l) r.1, r.2))
def areNb (rays : List (Vec × Nat)) (one other : Vec) (shared : Nat) : Bool :=
  rays.all fun r => !((r.2 &&& shared == shared) && (r.1 != one) && (r.1 != other))
def joined (rays : List (Vec × Nat)) (pos neg : List (Vec × Nat × Int)) (bit : Nat) : List (Vec × Nat) :=
  pos.flatMap fun p => neg.filterMap fun q =>
    if areNb rays p.1 q.1 (p.2.1 &&& q.2.1) then some (primitive (comb p.2.2 q.1 (-q.2.2) p.1), (p.2.1 &&& q.2.1) ||| bit) else none
def keptOf (c : Vec) (bit : Nat) (rays : List (Vec × Nat)) : List (Vec × Nat) := (rays.filter fun r => dot c r.1 == 0).map fun r => (r.1, r.2 ||| bit)
def posOf (c : Vec) (rays : List (Vec × Nat)) : List (Vec × Nat × Int) := (rays.filter fun r => decide (0 < dot c r.1)).map fun r => (r.1, r.2, dot c r.1)
def negOf (c : Vec) (rays : List (Vec × Nat)) : List (Vec × Nat × Int) := (rays.filter fun r => decide (dot c r.1 < 0)).map fun r => (r.1, r.2, dot c r.1)
def add (c : Vec) (exact : Bool) (B : Bld) : Bld :=
  match turnLine c B with
  | some (l, ls, rs) => ⟨ls, (rs.map fun r => (r.1, r.2 ||| 2 ^ B.count)) ++ (if exact then [] else [(l, 2 ^ B.count - 1)]), B.count + 1⟩
  | none => ⟨B.lines, (if exact then keptOf c (2 ^ B.count) B.rays else keptOf c (2 ^ B.count) B.rays ++ (posOf c B.rays).map fun r => (r.1, r.2.1)) ++
      joined B.rays (posOf c B.rays) (negOf c B.rays) (2 ^ B.count), B.count + 1⟩

/-! ### lines -/
theorem findTurn_some {c : Vec} : ∀ {ls a b : List Vec} {l : Vec}, findTurn c ls = some (a, l, b) → ls = a ++ l :: b ∧ dot c l ≠ 0
  | [], _, _, _, h => by simp [findTurn] at h
  | x :: ls, a, b, l, h => by
    unfold findTurn at h
    split at h
    · rename_i hx
      simp only [Option.some.injEq, Prod.mk.injEq] at h
      obtain ⟨rfl, rfl, rfl⟩ := h
      exact ⟨rfl, hx⟩
    · split at h
      · cases h
      · rename_i a' x' b' e
        simp only [Option.some.injEq, Prod.mk.injEq] at h
        obtain ⟨rfl, rfl, rfl⟩ := h
        obtain ⟨h1, h2⟩ := findTurn_some e
        exact ⟨by rw [h1]; rfl, h2⟩
theorem findTurn_none {c : Vec} : ∀ {ls : List Vec}, findTurn c ls = none → ∀ l ∈ ls, dot c l = 0
  | [], _, _, h => nomatch h
  | x :: ls, h, l, hl => by
    unfold findTurn at h
    split at h
    · cases h
    · rename_i hx
      split at h
      · rename_i e
        rcases List.mem_cons.mp hl with rfl | hl
        · exact Decidable.not_not.mp hx
        · exact findTurn_none e l hl
      · cases h
theorem flipped_pos {c l : Vec} (h : dot c l ≠ 0) : 0 < dot c (flipped c l) := by
  unfold flipped
  split
  · rw [dot_neg]; omega
  · omega
theorem flipped_len (c l : Vec) : (flipped c l).length = l.length := by unfold flipped; split <;> simp
theorem flipped_zero {c l p : Vec} (h : dot p l = 0) : dot p (flipped c l) = 0 := by
  unfold flipped
  split
  · rw [dot_neg, h]; rfl
  · exact h
/-- an adjusted vector: a positive multiple of it is value * o - (c . o) * l -/
theorem adj_spec {c l o : Vec} {n : Nat} {value : Int} (hl : l.length = n) (ho : o.length = n) :
    (adj c value l o).length = n ∧ ∃ g : Int, 0 < g ∧ comb value o (-dot c o) l = smul g (adj c value l o) := by
  refine ⟨by unfold adj; rw [primitive_length, comb_len ho hl], primitive_spec _⟩
theorem adj_dot {c l o : Vec} {n : Nat} {value : Int} (hl : l.length = n) (ho : o.length = n) :
    ∃ g : Int, 0 < g ∧ ∀ w, g * dot w (adj c value l o) = value * dot w o - dot c o * dot w l := by
  obtain ⟨_, g, hg, e⟩ := adj_spec (c := c) (value := value) hl ho
  refine ⟨g, hg, fun w => ?_⟩
  have := congrArg (dot w) e
  rw [dot_comb _ _ _ (ho.trans hl.symm), dot_smul] at this
  grind
theorem sign_mul {g x y v : Int} (hg : 0 < g) (hv : 0 < v) (e : g * x = v * y) : (x = 0 ↔ y = 0) ∧ (0 < x ↔ 0 < y) ∧ (0 ≤ x ↔ 0 ≤ y) := by
  have h1 : x = 0 → y = 0 := fun h => pos_of_mul hv (by rw [← e, h]; simp)
  have h2 : y = 0 → x = 0 := fun h => pos_of_mul hg (by rw [e, h]; simp)
  have h3 : 0 < x → 0 < y := fun h => by
    have := Int.mul_pos hg h
    rw [e] at this
    exact Int.pos_of_mul_pos_right this hv
  have h4 : 0 < y → 0 < x := fun h => by
    have := Int.mul_pos hv h
    rw [← e] at this
    exact Int.pos_of_mul_pos_right this hg
  refine ⟨⟨h1, h2⟩, ⟨h3, h4⟩, ?_⟩
  omega

theorem primitive_le (v : Vec) : gcdL (primitive v) ≤ 1 := by
  by_cases h : gcdL v = 0
  · have e := gcdL_zero h
    unfold primitive
    rw [if_pos (by omega)]
    omega
  · rw [primitive_gcd h]; omega
theorem gcd_one {v p : Vec} (h : gcdL v ≤ 1) (hp : dot p v ≠ 0) : gcdL v = 1 := by
  by_cases h0 : gcdL v = 0
  · have e := gcdL_zero h0
    rw [e, dot_zeros] at hp
    exact absurd rfl hp
  · omega
theorem gcdL_neg (v : Vec) : gcdL (neg v) = gcdL v := by rw [neg_smul, gcdL_smul]; simp
theorem gcdL_flipped (c v : Vec) : gcdL (flipped c v) = gcdL v := by unfold flipped; split; exact gcdL_neg v; rfl
def Sat (E C : List Vec) (v : Vec) : Prop := (∀ e ∈ E, dot e v = 0) ∧ ∀ c ∈ C, 0 ≤ dot c v
/-- only equations so far -/
structure InvE (n : Nat) (E : List Vec) (B : Bld) : Prop where
  lens : Lens n B.lines
  liml : ∀ l ∈ B.lines, gcdL l ≤ 1
  zero : ∀ l ∈ B.lines, ∀ e ∈ E, dot e l = 0
  norays : B.rays = []
  cnt : B.count = E.length
  comp : ∀ v, v.length = n → (∀ e ∈ E, dot e v = 0) → Gen n B.lines [] v
structure Inv (n : Nat) (E C : List Vec) (B : Bld) : Prop where
  lens : Lens n B.lines
  liml : ∀ l ∈ B.lines, gcdL l ≤ 1
  lenr : Lens n (B.rays.map (·.1))
  zero : ∀ l ∈ B.lines, ∀ p ∈ E ++ C, dot p l = 0
  eqr : ∀ r ∈ B.rays, ∀ e ∈ E, dot e r.1 = 0
  ger : ∀ r ∈ B.rays, ∀ c ∈ C, 0 ≤ dot c r.1
  cnt : B.count = (E ++ C).length
  mask : ∀ r ∈ B.rays, ∀ i : Nat, r.2.testBit i = true ↔ ∃ p, (E ++ C)[i]? = some p ∧ dot p r.1 = 0
  notall : ∀ r ∈ B.rays, ∃ c ∈ C, 0 < dot c r.1
  inc : B.rays.Pairwise fun r s => ¬ TS (E ++ C) r.1 s.1 ∧ ¬ TS (E ++ C) s.1 r.1
  comp : ∀ v, v.length = n → Sat E C v → Gen n B.lines (B.rays.map (·.1)) v
  prim : ∀ r ∈ B.rays, gcdL r.1 = 1
theorem InvE.start {n : Nat} {E : List Vec} {B : Bld} (h : InvE n E B) : Inv n E [] B where
  lens := h.lens
  liml := h.liml
  lenr := by rw [h.norays]; exact fun _ h => nomatch h
  zero := by rw [List.append_nil]; exact h.zero
  eqr := by rw [h.norays]; exact fun _ h => nomatch h
  ger := by rw [h.norays]; exact fun _ h => nomatch h
  cnt := by rw [List.append_nil]; exact h.cnt
  mask := by rw [h.norays]; exact fun _ h => nomatch h
  notall := by rw [h.norays]; exact fun _ h => nomatch h
  inc := by rw [h.norays]; exact .nil
  comp := fun v hv s => by rw [h.norays]; exact h.comp v hv s.1
  prim := by rw [h.norays]; exact fun _ h => nomatch h

/-- the map u -> value * u - (c . u) * l takes the hull into the hull of the adjusted -/
theorem proj_gen {n : Nat} {c l : Vec} {L R a b : List Vec} {u : Vec} (hL : Lens n L) (hR : Lens n R) (eL : ∃ m, L = a ++ m :: b ∧ l = flipped c m) (h : Gen n L R u) :
    Gen n ((a ++ b).map (adj c (dot c l) l)) (R.map (adj c (dot c l) l)) (comb (dot c l) u (-dot c u) l) := by
  obtain ⟨m, eL, el⟩ := eL
  have hm : m.length = n := hL m (by rw [eL]; simp)
  have hll : l.length = n := by rw [el, flipped_len]; exact hm
  have adjL : ∀ o ∈ a ++ b, o.length = n → Gen n ((a ++ b).map (adj c (dot c l) l)) (R.map (adj c (dot c l) l)) (comb (dot c l) o (-dot c o) l) ∧
      Gen n ((a ++ b).map (adj c (dot c l) l)) (R.map (adj c (dot c l) l)) (neg (comb (dot c l) o (-dot c o) l)) := fun o ho hl => by
    obtain ⟨_, g, hg, e⟩ := adj_spec (c := c) (value := dot c l) hll hl
    rw [e, neg_smul']
    exact ⟨(Gen.line (List.mem_map_of_mem ho)).smul (Int.le_of_lt hg), (Gen.nline (List.mem_map_of_mem ho)).smul (Int.le_of_lt hg)⟩
  have selfz : comb (dot c l) l (-dot c l) l = zeros n := by
    refine ext_dot (by simp [hll]) fun w _ => ?_
    rw [dot_comb _ _ _ rfl, dot_zeros]; grind
  have negc : ∀ o : Vec, o.length = n → comb (dot c l) (neg o) (-dot c (neg o)) l = neg (comb (dot c l) o (-dot c o) l) := fun o ho => by
    refine ext_dot (by simp [hll, ho]) fun w _ => ?_
    rw [dot_comb _ _ _ (by simp [hll, ho]), dot_neg, dot_neg, dot_neg, dot_comb _ _ _ (by simp [hll, ho])]; grind
  have lineL : ∀ o ∈ L, Gen n ((a ++ b).map (adj c (dot c l) l)) (R.map (adj c (dot c l) l)) (comb (dot c l) o (-dot c o) l) ∧
      Gen n ((a ++ b).map (adj c (dot c l) l)) (R.map (adj c (dot c l) l)) (neg (comb (dot c l) o (-dot c o) l)) := fun o ho => by
    have hol := hL o ho
    by_cases h1 : o ∈ a ++ b
    · exact adjL o h1 hol
    · have : o = m := by
        rw [eL] at ho
        simp only [List.mem_append, List.mem_cons, not_or] at ho h1
        rcases ho with h | h | h
        · exact absurd h h1.1
        · exact h
        · exact absurd h h1.2
      subst this
      have z : comb (dot c l) o (-dot c o) l = zeros n := by
        by_cases hs : dot c o < 0
        · have e2 : l = neg o := by rw [el]; unfold flipped; rw [if_pos hs]
          have e3 : o = neg l := by rw [e2, neg_neg]
          rw [e3, negc l hll, selfz, neg_zeros]
        · have e2 : l = o := by rw [el]; unfold flipped; rw [if_neg hs]
          rw [← e2]; exact selfz
      rw [z, neg_zeros]
      exact ⟨.zero, .zero⟩
  induction h with
  | zero =>
    have : comb (dot c l) (zeros n) (-dot c (zeros n)) l = zeros n := by
      refine ext_dot (by simp [hll]) fun w _ => ?_
      rw [dot_comb _ _ _ (by simp [hll]), dot_zeros, dot_zeros]; grind
    rw [this]; exact .zero
  | line h => exact (lineL _ h).1
  | nline h => rw [negc _ (hL _ h)]; exact (lineL _ h).2
  | @ray r h =>
    obtain ⟨_, g, hg, e⟩ := adj_spec (c := c) (value := dot c l) hll (hR _ h)
    rw [e]
    exact (Gen.ray (List.mem_map_of_mem h)).smul (Int.le_of_lt hg)
  | @comb u v x y hx hy hu hv i j =>
    have lu := hu.len hL hR
    have lv := hv.len hL hR
    have := Gen.comb hx hy i j
    have e : comb x (comb (dot c l) u (-dot c u) l) y (comb (dot c l) v (-dot c v) l) = comb (dot c l) (comb x u y v) (-dot c (comb x u y v)) l := by
      refine ext_dot (by simp [lu, lv, hll]) fun w _ => ?_
      rw [dot_comb _ _ _ (by simp [lu, lv, hll]), dot_comb _ _ _ (by simp [lu, lv, hll]), dot_comb _ _ _ (by simp [lu, lv, hll]), dot_comb _ _ _ (by simp [lu, lv, hll]), dot_comb _ _ _ (by simp [lu, lv, hll]), dot_comb _ _ _ (by simp [lu, lv, hll])]
      grind
    rw [← e]; exact this
  | @div k v hk hv h i =>
    refine .div hk (by simp [hv, hll]) ?_
    have e : smul k (comb (dot c l) v (-dot c v) l) = comb (dot c l) (smul k v) (-dot c (smul k v)) l := by
      refine ext_dot (by simp [hv, hll]) fun w _ => ?_
      rw [dot_comb _ _ _ (by simp [hv, hll]), dot_smul, dot_smul, dot_smul, dot_comb _ _ _ (by simp [hv, hll])]
      grind
    rw [e]; exact i
theorem turnLine_some {c : Vec} {B : Bld} {l : Vec} {ls : List Vec} {rs : List (Vec × Nat)} (h : turnLine c B = some (l, ls, rs)) :
    ∃ a m b, B.lines = a ++ m :: b ∧ dot c m ≠ 0 ∧ l = flipped c m ∧ ls = (a ++ b).map (adj c (dot c l) l) ∧ rs = B.rays.map fun r => (adj c (dot c l) l r.1, r.2) := by
  unfold turnLine at h
  split at h
  · cases h
  · rename_i a m b e
    simp only [Option.some.injEq, Prod.mk.injEq] at h
    obtain ⟨rfl, rfl, rfl⟩ := h
    obtain ⟨h1, h2⟩ := findTurn_some e
    exact ⟨a, m, b, h1, h2, rfl, rfl, rfl⟩
theorem turnLine_none {c : Vec} {B : Bld} (h : turnLine c B = none) : ∀ l ∈ B.lines, dot c l = 0 := by
  unfold turnLine at h
  split at h
  · rename_i e; exact findTurn_none e
  · cases h

theorem dist_comb {n : Nat} {c l v : Vec} (hl : l.length = n) (hv : v.length = n) : smul (dot c l) v = comb 1 (comb (dot c l) v (-dot c v) l) (dot c v) l := by
  refine ext_dot (by simp [hl, hv]) fun w _ => ?_
  rw [dot_smul, dot_comb _ _ _ (by simp [hl, hv]), dot_comb _ _ _ (by simp [hl, hv])]
  grind

/-- an equation is added -/
theorem InvE.add {n : Nat} {E : List Vec} {B : Bld} {c : Vec} (h : InvE n E B) (hc : c.length = n) : InvE n (E ++ [c]) (add c true B) := by
  unfold FM.add
  split
  · rename_i l ls rs e
    obtain ⟨a, m, b, eL, hm, el, els, ers⟩ := turnLine_some e
    have hml : m.length = n := h.lens m (by rw [eL]; simp)
    have hll : l.length = n := by rw [el, flipped_len]; exact hml
    have hpos : 0 < dot c l := by rw [el]; exact flipped_pos hm
    have hlz : ∀ p ∈ E, dot p l = 0 := fun p hp => by rw [el]; exact flipped_zero (h.zero m (by rw [eL]; simp) p hp)
    have memL : ∀ o ∈ a ++ b, o ∈ B.lines := fun o ho => by
      rw [eL]; simp only [List.mem_append, List.mem_cons] at ho ⊢
      rcases ho with h | h
      · exact .inl h
      · exact .inr (.inr h)
    refine ⟨?_, ?_, ?_, ?_, ?_, ?_⟩
    · intro x hx
      rw [els] at hx
      obtain ⟨o, ho, rfl⟩ := List.mem_map.mp hx
      exact (adj_spec hll (h.lens o (memL o ho))).1
    · intro x hx
      rw [els] at hx
      obtain ⟨o, ho, rfl⟩ := List.mem_map.mp hx
      exact primitive_le _
    · intro x hx p hp
      rw [els] at hx
      obtain ⟨o, ho, rfl⟩ := List.mem_map.mp hx
      obtain ⟨g, hg, k⟩ := adj_dot (c := c) (value := dot c l) hll (h.lens o (memL o ho))
      have := k p
      rcases List.mem_append.mp hp with hp | hp
      · rw [h.zero o (memL o ho) p hp, hlz p hp] at this
        exact pos_of_mul hg (by rw [this]; grind)
      · rw [List.mem_singleton] at hp
        subst hp
        exact pos_of_mul hg (by rw [this]; grind)
    · rw [ers, h.norays]; rfl
    · rw [h.cnt]; simp
    · intro v hv s
      have g0 := h.comp v hv fun e he => s e (by simp [he])
      have hcv : dot c v = 0 := s c (by simp)
      have pj := proj_gen (c := c) (l := l) (a := a) (b := b) (R := []) h.lens (fun x hx => nomatch hx) ⟨m, eL, el⟩ g0
      rw [els]
      refine .div hpos hv ?_
      rw [dist_comb hll hv, hcv]
      rw [hcv] at pj
      have e2 : FM.comb 1 (comb (dot c l) v (-0) l) 0 l = comb (dot c l) v (-0) l := by
        refine ext_dot (by simp [hll, hv]) fun w _ => ?_
        rw [dot_comb _ _ _ (by simp [hll, hv])]; grind
      rw [e2]; exact pj
  · rename_i e
    have hz := turnLine_none e
    refine ⟨h.lens, h.liml, ?_, ?_, ?_, ?_⟩
    · intro l hl p hp
      rcases List.mem_append.mp hp with hp | hp
      · exact h.zero l hl p hp
      · rw [List.mem_singleton] at hp; subst hp; exact hz l hl
    · simp [h.norays, keptOf, posOf, joined]
    · rw [h.cnt]; simp
    · intro v hv s
      exact h.comp v hv fun e he => s e (by simp [he])
end FM

namespace FM
theorem testBit_or_pow (m k i : Nat) : (m ||| 2 ^ k).testBit i = (m.testBit i || decide (k = i)) := by
  rw [Nat.testBit_or, Nat.testBit_two_pow]
theorem testBit_pred (k i : Nat) : (2 ^ k - 1).testBit i = decide (i < k) := Nat.testBit_two_pow_sub_one k i
theorem get_append_last {P : List Vec} {c p : Vec} {i : Nat} : (P ++ [c])[i]? = some p ↔ P[i]? = some p ∨ (i = P.length ∧ p = c) := by
  rcases Nat.lt_trichotomy i P.length with h | h | h
  · rw [List.getElem?_append_left h]
    exact ⟨.inl, fun q => q.elim id fun q => absurd q.1 (by omega)⟩
  · subst h
    rw [List.getElem?_append_right (Nat.le_refl _), Nat.sub_self, List.getElem?_eq_none (Nat.le_refl P.length)]
    simp [eq_comm]
  · rw [List.getElem?_append_right (by omega), List.getElem?_eq_none (by simp; omega), List.getElem?_eq_none (by omega)]
    simp; omega
/-- the mask of a vector that a condition more is tight or not at -/
theorem mask_or {P : List Vec} {c r : Vec} {m k : Nat} (hk : k = P.length) (h : ∀ i : Nat, m.testBit i = true ↔ ∃ p, P[i]? = some p ∧ dot p r = 0) (hc : dot c r = 0) :
    ∀ i : Nat, (m ||| 2 ^ k).testBit i = true ↔ ∃ p, (P ++ [c])[i]? = some p ∧ dot p r = 0 := fun i => by
  rw [testBit_or_pow, Bool.or_eq_true, decide_eq_true_eq, h i]
  constructor
  · rintro (⟨p, h1, h2⟩ | e)
    · exact ⟨p, get_append_last.mpr (.inl h1), h2⟩
    · exact ⟨c, get_append_last.mpr (.inr ⟨by omega, rfl⟩), hc⟩
  · rintro ⟨p, h1, h2⟩
    rcases get_append_last.mp h1 with h1 | ⟨h1, rfl⟩
    · exact .inl ⟨p, h1, h2⟩
    · exact .inr (by omega)
theorem mask_keep {P : List Vec} {c r : Vec} {m : Nat} (h : ∀ i : Nat, m.testBit i = true ↔ ∃ p, P[i]? = some p ∧ dot p r = 0) (hc : dot c r ≠ 0) :
    ∀ i : Nat, m.testBit i = true ↔ ∃ p, (P ++ [c])[i]? = some p ∧ dot p r = 0 := fun i => by
  rw [h i]
  constructor
  · rintro ⟨p, h1, h2⟩
    exact ⟨p, get_append_last.mpr (.inl h1), h2⟩
  · rintro ⟨p, h1, h2⟩
    rcases get_append_last.mp h1 with h1 | ⟨h1, rfl⟩
    · exact ⟨p, h1, h2⟩
    · exact absurd h2 hc
theorem pairwise_map {α β : Type} {R : β → β → Prop} {f : α → β} {l : List α} : (l.map f).Pairwise R ↔ l.Pairwise fun a b => R (f a) (f b) := List.pairwise_map

/-- a condition is added that is not 0 on some line -/
theorem Inv.turn {n : Nat} {E C : List Vec} {B : Bld} {c l : Vec} {ls : List Vec} {rs : List (Vec × Nat)} (h : Inv n E C B) (hc : c.length = n) (e : turnLine c B = some (l, ls, rs)) :
    Inv n E (C ++ [c]) ⟨ls, (rs.map fun r => (r.1, r.2 ||| 2 ^ B.count)) ++ [(l, 2 ^ B.count - 1)], B.count + 1⟩ := by
  obtain ⟨a, m, b, eL, hm, el, els, ers⟩ := turnLine_some e
  have hml : m.length = n := h.lens m (by rw [eL]; simp)
  have hll : l.length = n := by rw [el, flipped_len]; exact hml
  have hpos : 0 < dot c l := by rw [el]; exact flipped_pos hm
  have hlz : ∀ p ∈ E ++ C, dot p l = 0 := fun p hp => by rw [el]; exact flipped_zero (h.zero m (by rw [eL]; simp) p hp)
  have memL : ∀ o ∈ a ++ b, o ∈ B.lines := fun o ho => by
    rw [eL]; simp only [List.mem_append, List.mem_cons] at ho ⊢
    rcases ho with h | h
    · exact .inl h
    · exact .inr (.inr h)
  have assoc : E ++ (C ++ [c]) = (E ++ C) ++ [c] := by rw [List.append_assoc]
  have lenr : ∀ r ∈ B.rays, r.1.length = n := fun r hr => h.lenr _ (List.mem_map_of_mem hr)
  -- the adjusted vectors keep all signs of the old conditions, and c is 0 on them
  have sg : ∀ r ∈ B.rays, ∀ p ∈ E ++ C, (dot p (adj c (dot c l) l r.1) = 0 ↔ dot p r.1 = 0) ∧ (0 < dot p (adj c (dot c l) l r.1) ↔ 0 < dot p r.1) ∧ (0 ≤ dot p (adj c (dot c l) l r.1) ↔ 0 ≤ dot p r.1) := fun r hr p hp => by
    obtain ⟨g, hg, k⟩ := adj_dot (c := c) (value := dot c l) hll (lenr r hr)
    refine sign_mul hg hpos ?_
    rw [k p, hlz p hp]; grind
  have cz : ∀ o : Vec, o.length = n → dot c (adj c (dot c l) l o) = 0 := fun o ho => by
    obtain ⟨g, hg, k⟩ := adj_dot (c := c) (value := dot c l) hll ho
    exact pos_of_mul hg (by rw [k c]; grind)
  rw [ers, els]
  simp only [List.map_map]
  refine ⟨?_, ?_, ?_, ?_, ?_, ?_, ?_, ?_, ?_, ?_, ?_, ?_⟩
  · intro x hx
    obtain ⟨o, ho, rfl⟩ := List.mem_map.mp hx
    exact (adj_spec hll (h.lens o (memL o ho))).1
  · intro x hx
    obtain ⟨o, ho, rfl⟩ := List.mem_map.mp hx
    exact primitive_le _
  · intro x hx
    simp only [List.map_append, List.mem_append, List.mem_map, List.map_map] at hx
    rcases hx with ⟨r, hr, rfl⟩ | hx
    · exact (adj_spec hll (lenr r hr)).1
    · simp only [List.mem_singleton, List.map_cons, List.map_nil] at hx
      obtain ⟨q, rfl, rfl⟩ := hx
      exact hll
  · intro x hx p hp
    obtain ⟨o, ho, rfl⟩ := List.mem_map.mp hx
    rw [assoc] at hp
    rcases List.mem_append.mp hp with hp | hp
    · obtain ⟨g, hg, k⟩ := adj_dot (c := c) (value := dot c l) hll (h.lens o (memL o ho))
      exact pos_of_mul hg (by rw [k p, h.zero o (memL o ho) p hp, hlz p hp]; grind)
    · rw [List.mem_singleton] at hp; subst hp; exact cz o (h.lens o (memL o ho))
  · intro x hx p hp
    rcases List.mem_append.mp hx with hx | hx
    · obtain ⟨r, hr, rfl⟩ := List.mem_map.mp hx
      exact ((sg r hr p (by simp [hp])).1).mpr (h.eqr r hr p hp)
    · rw [List.mem_singleton] at hx; subst hx; exact hlz p (by simp [hp])
  · intro x hx p hp
    rcases List.mem_append.mp hx with hx | hx
    · obtain ⟨r, hr, rfl⟩ := List.mem_map.mp hx
      rcases List.mem_append.mp hp with hp | hp
      · exact ((sg r hr p (by simp [hp])).2.2).mpr (h.ger r hr p hp)
      · rw [List.mem_singleton] at hp; subst hp
        exact Int.le_of_eq (cz r.1 (lenr r hr)).symm
    · rw [List.mem_singleton] at hx; subst hx
      rcases List.mem_append.mp hp with hp | hp
      · exact Int.le_of_eq (hlz p (by simp [hp])).symm
      · rw [List.mem_singleton] at hp; subst hp; exact Int.le_of_lt hpos
  · rw [h.cnt]; simp; omega
  · intro x hx
    rw [assoc]
    rcases List.mem_append.mp hx with hx | hx
    · obtain ⟨r, hr, rfl⟩ := List.mem_map.mp hx
      refine mask_or h.cnt (fun i => ?_) (cz r.1 (lenr r hr))
      show r.2.testBit i = true ↔ _
      rw [h.mask r hr i]
      exact ⟨fun ⟨p, h1, h2⟩ => ⟨p, h1, ((sg r hr p (List.mem_of_getElem? h1)).1).mpr h2⟩, fun ⟨p, h1, h2⟩ => ⟨p, h1, ((sg r hr p (List.mem_of_getElem? h1)).1).mp h2⟩⟩
    · rw [List.mem_singleton] at hx; subst hx
      refine mask_keep (fun i => ?_) (Int.ne_of_gt hpos)
      show (2 ^ B.count - 1).testBit i = true ↔ _
      rw [testBit_pred, decide_eq_true_eq, h.cnt]
      constructor
      · intro hi
        exact ⟨(E ++ C)[i], List.getElem?_eq_getElem hi, hlz _ (List.getElem_mem hi)⟩
      · rintro ⟨p, h1, _⟩
        exact (List.getElem?_eq_some_iff.mp h1).1
  · intro x hx
    rcases List.mem_append.mp hx with hx | hx
    · obtain ⟨r, hr, rfl⟩ := List.mem_map.mp hx
      obtain ⟨p, hp, k⟩ := h.notall r hr
      exact ⟨p, by simp [hp], ((sg r hr p (by simp [hp])).2.1).mpr k⟩
    · rw [List.mem_singleton] at hx; subst hx
      exact ⟨c, by simp, hpos⟩
  · rw [List.pairwise_append]
    refine ⟨?_, by simp, ?_⟩
    · rw [pairwise_map]
      refine (List.Pairwise.and_mem.mp h.inc).imp ?_
      rintro r s ⟨hr, hs, i1, i2⟩
      have tr : ∀ r s : Vec × Nat, r ∈ B.rays → s ∈ B.rays → TS (E ++ (C ++ [c])) (adj c (dot c l) l r.1) (adj c (dot c l) l s.1) → TS (E ++ C) r.1 s.1 := fun r s hr hs t p hp z =>
        ((sg s hs p hp).1).mp (t p (by rw [assoc]; exact List.mem_append_left _ hp) (((sg r hr p hp).1).mpr z))
      exact ⟨fun t => i1 (tr r s hr hs t), fun t => i2 (tr s r hs hr t)⟩
    · intro x hx y hy
      obtain ⟨r, hr, rfl⟩ := List.mem_map.mp hx
      rw [List.mem_singleton] at hy; subst hy
      constructor
      · intro t
        have := t c (by simp) (cz r.1 (lenr r hr))
        simp only at this
        omega
      · intro t
        obtain ⟨p, hp, k⟩ := h.notall r hr
        have := t p (by simp [hp]) (hlz p (by simp [hp]))
        have := ((sg r hr p (by simp [hp])).1).mp this
        omega
  · intro v hv s
    have g0 := h.comp v hv ⟨s.1, fun p hp => s.2 p (by simp [hp])⟩
    have hcv : 0 ≤ dot c v := s.2 c (by simp)
    have pj := proj_gen (c := c) (l := l) (a := a) (b := b) h.lens h.lenr ⟨m, eL, el⟩ g0
    refine .div hpos hv ?_
    rw [dist_comb hll hv]
    refine .comb (by decide) hcv (pj.sub fun r hr => ?_) (.ray (by simp))
    simp only [List.map_map, List.map_append, List.mem_append, List.mem_map, Function.comp] at hr ⊢
    obtain ⟨q, hq, rfl⟩ := hr
    exact .inl ⟨q, hq, rfl⟩
  · intro x hx
    rcases List.mem_append.mp hx with hx | hx
    · obtain ⟨r, hr, rfl⟩ := List.mem_map.mp hx
      obtain ⟨p, hp, k⟩ := h.notall r hr
      have := ((sg r hr p (by simp [hp])).2.1).mpr k
      exact gcd_one (p := p) (primitive_le _) (Int.ne_of_gt this)
    · rw [List.mem_singleton] at hx; subst hx
      refine gcd_one (p := c) ?_ (Int.ne_of_gt hpos)
      show gcdL l ≤ 1
      rw [el, gcdL_flipped]
      exact h.liml m (by rw [eL]; simp)
end FM
end
section
set_option linter.all false
/-! A condition that is 0 on all lines: the double description step. -/
namespace FM
/-- how many conditions of P are not tight at v -/
def nt (P : List Vec) (v : Vec) : Nat := P.countP fun p => dot p v != 0
theorem countP_lt {α : Type} {f g : α → Bool} : ∀ {l : List α}, (∀ x ∈ l, g x = true → f x = true) → (∃ x ∈ l, f x = true ∧ g x = false) → l.countP g < l.countP f
  | [], _, ⟨_, h, _⟩ => nomatch h
  | x :: l, h, ⟨y, hy, h1, h2⟩ => by
    have le : l.countP g ≤ l.countP f := List.countP_mono_left fun z hz => h z (by simp [hz])
    rw [List.countP_cons, List.countP_cons]
    rcases List.mem_cons.mp hy with rfl | hy
    · rw [h1, h2]; simp; omega
    · have := countP_lt (l := l) (fun z hz => h z (by simp [hz])) ⟨y, hy, h1, h2⟩
      have k := h x (by simp)
      split <;> split <;> simp_all <;> omega
theorem nt_lt {P : List Vec} {u v : Vec} (h : TS P v u) (h2 : ∃ p ∈ P, dot p v ≠ 0 ∧ dot p u = 0) : nt P u < nt P v := by
  refine countP_lt (fun p hp k => ?_) ?_
  · simp only [bne_iff_ne, ne_eq] at k ⊢
    exact fun z => k (h p hp z)
  · obtain ⟨p, hp, k1, k2⟩ := h2
    exact ⟨p, hp, by simpa using k1, by simpa using k2⟩
theorem nt_le {P : List Vec} {u v : Vec} (h : TS P v u) : nt P u ≤ nt P v := by
  refine List.countP_mono_left fun p hp k => ?_
  simp only [bne_iff_ne, ne_eq] at k ⊢
  exact fun z => k (h p hp z)

/-- the least quotient f / g among those with g > 0 -/
theorem argmin {α : Type} (f g : α → Int) : ∀ {l : List α}, (∃ x ∈ l, 0 < g x) → ∃ x ∈ l, 0 < g x ∧ ∀ y ∈ l, 0 < g y → f x * g y ≤ f y * g x
  | [], ⟨_, h, _⟩ => nomatch h
  | a :: l, h => by
    by_cases hl : ∃ x ∈ l, 0 < g x
    · obtain ⟨x, hx, gx, k⟩ := argmin f g hl
      by_cases ga : 0 < g a
      · by_cases hc : f a * g x ≤ f x * g a
        · refine ⟨a, by simp, ga, fun y hy gy => ?_⟩
          rcases List.mem_cons.mp hy with rfl | hy
          · exact Int.le_refl _
          · have k1 := k y hy gy
            -- f a * g y <= f y * g a
            have h1 : f a * g x * g y ≤ f x * g a * g y := Int.mul_le_mul_of_nonneg_right hc (Int.le_of_lt gy)
            have h2 : f x * g y * g a ≤ f y * g x * g a := Int.mul_le_mul_of_nonneg_right k1 (Int.le_of_lt ga)
            have h3 : (f a * g y) * g x ≤ (f y * g a) * g x := by grind
            exact Int.le_of_mul_le_mul_right h3 gx
        · refine ⟨x, by simp [hx], gx, fun y hy gy => ?_⟩
          rcases List.mem_cons.mp hy with rfl | hy
          · omega
          · exact k y hy gy
      · refine ⟨x, by simp [hx], gx, fun y hy gy => ?_⟩
        rcases List.mem_cons.mp hy with rfl | hy
        · exact absurd gy ga
        · exact k y hy gy
    · obtain ⟨x, hx, gx⟩ := h
      rcases List.mem_cons.mp hx with rfl | hx
      · refine ⟨x, by simp, gx, fun y hy gy => ?_⟩
        rcases List.mem_cons.mp hy with rfl | hy
        · exact Int.le_refl _
        · exact absurd ⟨y, hy, gy⟩ hl
      · exact absurd ⟨x, hx, gx⟩ hl

/-- v less as much of r as stays within the conditions -/
theorem sub_max {n : Nat} {P : List Vec} {v r : Vec} (hv : v.length = n) (hr : r.length = n) (pv : ∀ p ∈ P, 0 ≤ dot p v) (pr : ∀ p ∈ P, 0 ≤ dot p r) (t : TS P v r) (some : ∃ p ∈ P, 0 < dot p r) :
    ∃ p ∈ P, 0 < dot p r ∧ 0 < dot p v ∧ (∀ q ∈ P, 0 ≤ dot q (comb (dot p r) v (-dot p v) r)) ∧ TS P v (comb (dot p r) v (-dot p v) r) ∧ nt P (comb (dot p r) v (-dot p v) r) < nt P v ∧
      (∀ q ∈ P, 0 < dot q r → dot p v * dot q r ≤ dot q v * dot p r) ∧ dot p (comb (dot p r) v (-dot p v) r) = 0 := by
  obtain ⟨p, hp, gp, k⟩ := argmin (fun p => dot p v) (fun p => dot p r) some
  have vp : 0 < dot p v := by
    have := pv p hp
    rcases Int.lt_or_eq_of_le this with h | h
    · exact h
    · have := t p hp h.symm
      omega
  have e : ∀ q, dot q (comb (dot p r) v (-dot p v) r) = dot p r * dot q v - dot p v * dot q r := fun q => by
    rw [dot_comb _ _ _ (hv.trans hr.symm)]; grind
  have ts : TS P v (comb (dot p r) v (-dot p v) r) := fun q hq z => by
    rw [e q, z, t q hq z]; simp
  have z : dot p (comb (dot p r) v (-dot p v) r) = 0 := by rw [e p]; grind
  refine ⟨p, hp, gp, vp, fun q hq => ?_, ts, nt_lt ts ⟨p, hp, by omega, z⟩, k, z⟩
  rw [e q]
  by_cases gq : 0 < dot q r
  · have := k q hq gq
    grind
  · have h0 : dot q r = 0 := by have := pr q hq; omega
    rw [h0]
    have := Int.mul_nonneg (Int.le_of_lt gp) (pv q hq)
    grind

/-- what one step leans on -/
structure Base (n : Nat) (P L R : List Vec) : Prop where
  lens : Lens n L
  lenr : Lens n R
  zero : ∀ p ∈ P, ∀ l ∈ L, dot p l = 0
  ge : ∀ p ∈ P, ∀ r ∈ R, 0 ≤ dot p r
  notall : ∀ r ∈ R, ∃ p ∈ P, 0 < dot p r
  inc : ∀ r ∈ R, ∀ s ∈ R, r ≠ s → ¬ TS P r s

/-- all of a face on one side of h, and h = 0: on the lines alone -/
theorem one_side {n : Nat} {P L R F : List Vec} {h x : Vec} (b : Base n P L R) (hL : ∀ l ∈ L, dot h l = 0) (sub : ∀ r ∈ F, r ∈ R) (g : Gen n L F x) (hx : dot h x = 0) (side : (∀ r ∈ F, 0 < dot h r) ∨ ∀ r ∈ F, dot h r < 0) : Gen n L [] x := by
  have lF : Lens n F := fun r hr => b.lenr r (sub r hr)
  rcases side with s | s
  · obtain ⟨G, hG, gG⟩ := g.face (P := [h]) b.lens lF (fun p hp l hl => by rw [List.mem_singleton] at hp; rw [hp]; exact hL l hl) (fun p hp r hr => by rw [List.mem_singleton] at hp; rw [hp]; exact Int.le_of_lt (s r hr))
    refine gG.mono (fun l hl => ⟨.line hl, .nline hl⟩) fun r hr => ?_
    have := (hG r hr).2 h (by simp) hx
    have := s r (hG r hr).1
    omega
  · obtain ⟨G, hG, gG⟩ := g.face (P := [neg h]) b.lens lF (fun p hp l hl => by rw [List.mem_singleton] at hp; rw [hp, dot_comm, dot_neg, dot_comm, hL l hl]; rfl)
      (fun p hp r hr => by rw [List.mem_singleton] at hp; rw [hp, dot_comm, dot_neg, dot_comm]; have := s r hr; omega)
    refine gG.mono (fun l hl => ⟨.line hl, .nline hl⟩) fun r hr => ?_
    have := (hG r hr).2 (neg h) (by simp) (by rw [dot_comm, dot_neg, dot_comm, hx]; rfl)
    rw [dot_comm, dot_neg, dot_comm] at this
    have := s r (hG r hr).1
    omega

theorem alg0 {A W x y : Int} (h : A * x + -W * y = 0) : A * x = W * y := by grind
theorem alg1 {A W s x y ha hb : Int} (k : A * (s * x + ha * y) = W * (s * 0 + hb * y)) (k1 : 0 ≤ A * (s * x)) (k2 : 0 ≤ (A * ha - W * hb) * y) : A * (s * x) = 0 := by
  have : A * (s * x) + (A * ha - W * hb) * y = 0 := by grind
  omega
/-- two rays a, b on one side, c on the other; b is tight where a and c are: then the face of a and c has more to offer -/
theorem third {n : Nat} {P L R : List Vec} {h a b c : Vec} (B : Base n P L R) (hL : ∀ l ∈ L, dot h l = 0) (comp : ∀ x, x.length = n → (∀ p ∈ P, 0 ≤ dot p x) → (∃ s t u w z y : Int, x = comb s (comb t a u c) w (comb z b y c)) → Gen n L R x)
    (ha : a ∈ R) (hb : b ∈ R) (hc : c ∈ R) (ab : a ≠ b) (sa : 0 < dot h a) (sb : 0 < dot h b) (sc : dot h c < 0)
    (tb : ∀ p ∈ P, dot p a = 0 → dot p c = 0 → dot p b = 0) (ta : ∀ p ∈ P, dot p b = 0 → dot p c = 0 → dot p a = 0) :
    (∃ r ∈ R, dot h r = 0 ∧ ∀ p ∈ P, dot p a = 0 → dot p c = 0 → dot p r = 0) ∨
    ∃ r ∈ R, ∃ s ∈ R, 0 < dot h r ∧ dot h s < 0 ∧ (∀ p ∈ P, dot p a = 0 → dot p c = 0 → dot p r = 0 ∧ dot p s = 0) ∧ ∃ p ∈ P, ¬ (dot p a = 0 ∧ dot p c = 0) ∧ dot p r = 0 ∧ dot p s = 0 := by
  have la := B.lenr a ha
  have lb := B.lenr b hb
  have lc := B.lenr c hc
  have e0 : ∀ q, dot q (comb (-dot h c) a (dot h a) c) = (-dot h c) * dot q a + dot h a * dot q c := fun q => dot_comb _ _ _ (la.trans lc.symm)
  have e1 : ∀ q, dot q (comb (-dot h c) b (dot h b) c) = (-dot h c) * dot q b + dot h b * dot q c := fun q => dot_comb _ _ _ (lb.trans lc.symm)
  have l0 : (comb (-dot h c) a (dot h a) c).length = n := comb_len la lc
  have l1 : (comb (-dot h c) b (dot h b) c).length = n := comb_len lb lc
  have q0 : ∀ q ∈ P, 0 ≤ (-dot h c) * dot q a ∧ 0 ≤ dot h a * dot q c := fun q hq =>
    ⟨Int.mul_nonneg (by omega) (B.ge q hq a ha), Int.mul_nonneg (Int.le_of_lt sa) (B.ge q hq c hc)⟩
  have q1 : ∀ q ∈ P, 0 ≤ (-dot h c) * dot q b ∧ 0 ≤ dot h b * dot q c := fun q hq =>
    ⟨Int.mul_nonneg (by omega) (B.ge q hq b hb), Int.mul_nonneg (Int.le_of_lt sb) (B.ge q hq c hc)⟩
  have z0 : ∀ q ∈ P, dot q (comb (-dot h c) a (dot h a) c) = 0 → dot q a = 0 ∧ dot q c = 0 := fun q hq z => by
    have := q0 q hq
    rw [e0 q] at z
    exact ⟨pos_of_mul (k := -dot h c) (by omega) (by omega), pos_of_mul sa (by omega)⟩
  have z1 : ∀ q ∈ P, dot q (comb (-dot h c) b (dot h b) c) = 0 → dot q b = 0 ∧ dot q c = 0 := fun q hq z => by
    have := q1 q hq
    rw [e1 q] at z
    exact ⟨pos_of_mul (k := -dot h c) (by omega) (by omega), pos_of_mul sb (by omega)⟩
  have ts : TS P (comb (-dot h c) a (dot h a) c) (comb (-dot h c) b (dot h b) c) := fun q hq z => by
    obtain ⟨k1, k2⟩ := z0 q hq z
    rw [e1 q, tb q hq k1 k2, k2]; simp
  have sm : ∃ p ∈ P, 0 < dot p (comb (-dot h c) b (dot h b) c) := by
    obtain ⟨p, hp, k⟩ := B.notall b hb
    refine ⟨p, hp, ?_⟩
    rw [e1 p]
    have := Int.mul_pos (a := -dot h c) (by omega) k
    have := q1 p hp
    omega
  obtain ⟨p, hp, pw, pv, xge, xts, _, _, xz⟩ := sub_max l0 l1 (fun q hq => by rw [e0 q]; have := q0 q hq; omega) (fun q hq => by rw [e1 q]; have := q1 q hq; omega) ts sm
  -- x
  have xl : (comb (dot p (comb (-dot h c) b (dot h b) c)) (comb (-dot h c) a (dot h a) c) (-dot p (comb (-dot h c) a (dot h a) c)) (comb (-dot h c) b (dot h b) c)).length = n := comb_len l0 l1
  have gx := comp _ xl xge ⟨_, _, _, _, _, _, rfl⟩
  obtain ⟨F, hF, gF⟩ := gx.face B.lens B.lenr B.zero B.ge
  have tight : ∀ r ∈ F, (∀ q ∈ P, dot q a = 0 → dot q c = 0 → dot q r = 0) ∧ dot p r = 0 := fun r hr => by
    refine ⟨fun q hq k1 k2 => (hF r hr).2 q hq (xts q hq ?_), (hF r hr).2 p hp xz⟩
    rw [e0 q, k1, k2]; simp
  have pn : ¬ (dot p a = 0 ∧ dot p c = 0) := fun ⟨k1, k2⟩ => by
    rw [e0 p, k1, k2] at pv; simp at pv
  have hx : dot h (comb (dot p (comb (-dot h c) b (dot h b) c)) (comb (-dot h c) a (dot h a) c) (-dot p (comb (-dot h c) a (dot h a) c)) (comb (-dot h c) b (dot h b) c)) = 0 := by
    rw [dot_comb _ _ _ (l0.trans l1.symm), e0 h, e1 h]; grind
  have fin : Gen n L [] (comb (dot p (comb (-dot h c) b (dot h b) c)) (comb (-dot h c) a (dot h a) c) (-dot p (comb (-dot h c) a (dot h a) c)) (comb (-dot h c) b (dot h b) c)) → False := fun gl => by
    generalize hA : dot p (comb (-dot h c) b (dot h b) c) = A at *
    generalize hV : dot p (comb (-dot h c) a (dot h a) c) = W at *
    have all : ∀ q ∈ P, A * ((-dot h c) * dot q a + dot h a * dot q c) = W * ((-dot h c) * dot q b + dot h b * dot q c) := fun q hq => by
      have := gl.dot_zero (c := q) (R := []) B.lens (fun x hx => nomatch hx) (B.zero q hq) (fun x hx => nomatch hx)
      rw [dot_comb _ _ _ (l0.trans l1.symm), e0 q, e1 q] at this
      exact alg0 this
    by_cases hD : 0 ≤ A * dot h a - W * dot h b
    · refine B.inc b hb a ha (Ne.symm ab) fun q hq z => ?_
      have k := all q hq
      rw [z] at k
      have k1 : 0 ≤ A * ((-dot h c) * dot q a) := Int.mul_nonneg (Int.le_of_lt pw) (q0 q hq).1
      have k2 : 0 ≤ (A * dot h a - W * dot h b) * dot q c := Int.mul_nonneg hD (B.ge q hq c hc)
      have k3 : A * ((-dot h c) * dot q a) = 0 := alg1 k k1 k2
      exact pos_of_mul (k := -dot h c) (by omega) (pos_of_mul pw k3)
    · refine B.inc a ha b hb ab fun q hq z => ?_
      have k := all q hq
      rw [z] at k
      have k1 : 0 ≤ W * ((-dot h c) * dot q b) := Int.mul_nonneg (Int.le_of_lt pv) (q1 q hq).1
      have k2 : 0 ≤ (W * dot h b - A * dot h a) * dot q c := Int.mul_nonneg (by omega) (B.ge q hq c hc)
      have k3 : W * ((-dot h c) * dot q b) = 0 := alg1 k.symm k1 k2
      exact pos_of_mul (k := -dot h c) (by omega) (pos_of_mul pv k3)
  by_cases hz : ∃ r ∈ F, dot h r = 0
  · obtain ⟨r, hr, k⟩ := hz
    exact .inl ⟨r, (hF r hr).1, k, (tight r hr).1⟩
  by_cases hpos : ∃ r ∈ F, 0 < dot h r
  · by_cases hneg : ∃ r ∈ F, dot h r < 0
    · obtain ⟨r, hr, k⟩ := hpos
      obtain ⟨s, hs, k'⟩ := hneg
      exact .inr ⟨r, (hF r hr).1, s, (hF s hs).1, k, k', fun q hq k1 k2 => ⟨(tight r hr).1 q hq k1 k2, (tight s hs).1 q hq k1 k2⟩, p, hp, pn, (tight r hr).2, (tight s hs).2⟩
    · exfalso
      have gl := one_side B hL (fun r hr => (hF r hr).1) gF hx (.inl fun r hr => by
        have h1 : ¬ dot h r = 0 := fun z => hz ⟨r, hr, z⟩
        have h2 : ¬ dot h r < 0 := fun z => hneg ⟨r, hr, z⟩
        omega)
      exact fin gl
  · exfalso
    have gl := one_side B hL (fun r hr => (hF r hr).1) gF hx (.inr fun r hr => by
      have h1 : ¬ dot h r = 0 := fun z => hz ⟨r, hr, z⟩
      have h2 : ¬ 0 < dot h r := fun z => hpos ⟨r, hr, z⟩
      omega)
    exact fin gl
/-- which of the pairs with a new vector w on h = 0 the step offers -/
structure Offer (n : Nat) (P L R : List Vec) (h : Vec) (W : Vec → Prop) : Prop where
  zero : ∀ r ∈ R, dot h r = 0 → W r
  pair : ∀ a ∈ R, ∀ c ∈ R, 0 < dot h a → dot h c < 0 → (∀ r ∈ R, (∀ p ∈ P, dot p a = 0 → dot p c = 0 → dot p r = 0) → r = a ∨ r = c) →
    ∃ w, W w ∧ ∀ p ∈ P, dot p a = 0 → dot p c = 0 → dot p w = 0
/-- not tight at both -/
def nt2 (P : List Vec) (a c : Vec) : Nat := P.countP fun p => !(dot p a == 0 && dot p c == 0)
theorem nt2_lt {P : List Vec} {a c r s : Vec} (h : ∀ p ∈ P, dot p a = 0 → dot p c = 0 → dot p r = 0 ∧ dot p s = 0) (h2 : ∃ p ∈ P, ¬ (dot p a = 0 ∧ dot p c = 0) ∧ dot p r = 0 ∧ dot p s = 0) : nt2 P r s < nt2 P a c := by
  refine countP_lt (fun p hp k => ?_) ?_
  · simp only [Bool.not_eq_true', Bool.and_eq_false_iff, beq_eq_false_iff_ne, ne_eq] at k ⊢
    by_cases z1 : dot p a = 0
    · by_cases z2 : dot p c = 0
      · have := h p hp z1 z2
        rcases k with k | k
        · exact absurd this.1 k
        · exact absurd this.2 k
      · exact .inr z2
    · exact .inl z1
  · obtain ⟨p, hp, k1, k2, k3⟩ := h2
    refine ⟨p, hp, ?_, by simp [k2, k3]⟩
    simp only [Bool.not_eq_true', Bool.and_eq_false_iff, beq_eq_false_iff_ne, ne_eq]
    by_cases z1 : dot p a = 0
    · exact .inr fun z2 => k1 ⟨z1, z2⟩
    · exact .inl z1
/-- a pair across h: some offered w is tight where both are -/
theorem across {n : Nat} {P L R : List Vec} {h : Vec} {W : Vec → Prop} (B : Base n P L R) (hL : ∀ l ∈ L, dot h l = 0) (comp : ∀ x, x.length = n → (∀ p ∈ P, 0 ≤ dot p x) → (∃ a b c, a ∈ R ∧ b ∈ R ∧ c ∈ R ∧ ∃ s t u w z y : Int, x = comb s (comb t a u c) w (comb z b y c)) → Gen n L R x)
    (O : Offer n P L R h W) : ∀ (m : Nat) (a c : Vec), nt2 P a c ≤ m → a ∈ R → c ∈ R → 0 < dot h a → dot h c < 0 → ∃ w, W w ∧ ∀ p ∈ P, dot p a = 0 → dot p c = 0 → dot p w = 0 := by
  intro m
  induction m with
  | zero =>
    intro a c hm ha hc sa sc
    have z : ∀ p ∈ P, dot p a = 0 := by
      intro p hp
      have hm0 : nt2 P a c = 0 := by omega
      unfold nt2 at hm0
      rw [List.countP_eq_zero] at hm0
      have := hm0 p hp
      simp at this
      exact this.1
    obtain ⟨p, hp, k⟩ := B.notall a ha
    have := z p hp
    omega
  | succ m ih =>
    intro a c hm ha hc sa sc
    by_cases nb : ∀ r ∈ R, (∀ p ∈ P, dot p a = 0 → dot p c = 0 → dot p r = 0) → r = a ∨ r = c
    · exact O.pair a ha c hc sa sc nb
    · obtain ⟨b, hb, tb, na, nc⟩ : ∃ b, b ∈ R ∧ (∀ p ∈ P, dot p a = 0 → dot p c = 0 → dot p b = 0) ∧ b ≠ a ∧ b ≠ c := by
        refine Classical.byContradiction fun no => nb fun r hr t => ?_
        by_cases h1 : r = a
        · exact .inl h1
        · by_cases h2 : r = c
          · exact .inr h2
          · exact absurd ⟨r, hr, t, h1, h2⟩ no
      rcases Int.lt_trichotomy (dot h b) 0 with sb | sb | sb
      · -- the pair a, b, or the third by -h
        by_cases more : ∃ p ∈ P, ¬ (dot p a = 0 ∧ dot p c = 0) ∧ dot p a = 0 ∧ dot p b = 0
        · have lt := nt2_lt (P := P) (a := a) (c := c) (r := a) (s := b) (fun p hp k1 k2 => ⟨k1, tb p hp k1 k2⟩) more
          obtain ⟨w, hw, k⟩ := ih a b (by omega) ha hb sa sb
          exact ⟨w, hw, fun p hp k1 k2 => k p hp k1 (tb p hp k1 k2)⟩
        · have dn : ∀ v, dot (neg h) v = - dot h v := fun v => by rw [dot_comm, dot_neg, dot_comm]
          have := third (h := neg h) (a := c) (b := b) (c := a) B (fun l hl => by rw [dn, hL l hl]; rfl) (fun x hx k e => comp x hx k ⟨c, b, a, hc, hb, ha, e⟩)
            hc hb ha (Ne.symm nc) (by rw [dn]; omega) (by rw [dn]; omega) (by rw [dn]; omega) (fun p hp k1 k2 => tb p hp k2 k1)
            (fun p hp k1 k2 => Classical.byContradiction fun k3 => more ⟨p, hp, fun k => k3 k.2, k2, k1⟩)
          rcases this with ⟨r, hr, z, t⟩ | ⟨r, hr, s, hs, z1, z2, t, p, hp, k1, k2, k3⟩
          · rw [dn] at z
            exact ⟨r, O.zero r hr (by omega), fun p hp k1 k2 => t p hp k2 k1⟩
          · rw [dn] at z1 z2
            have lt := nt2_lt (P := P) (a := a) (c := c) (r := s) (s := r) (fun p hp k1 k2 => ⟨(t p hp k2 k1).2, (t p hp k2 k1).1⟩) ⟨p, hp, fun k => k1 ⟨k.2, k.1⟩, k3, k2⟩
            obtain ⟨w, hw, k⟩ := ih s r (by omega) hs hr (by omega) (by omega)
            exact ⟨w, hw, fun p hp k1 k2 => k p hp (t p hp k2 k1).2 (t p hp k2 k1).1⟩
      · exact ⟨b, O.zero b hb sb, tb⟩
      · by_cases more : ∃ p ∈ P, ¬ (dot p a = 0 ∧ dot p c = 0) ∧ dot p b = 0 ∧ dot p c = 0
        · have lt := nt2_lt (P := P) (a := a) (c := c) (r := b) (s := c) (fun p hp k1 k2 => ⟨tb p hp k1 k2, k2⟩) more
          obtain ⟨w, hw, k⟩ := ih b c (by omega) hb hc sb sc
          exact ⟨w, hw, fun p hp k1 k2 => k p hp (tb p hp k1 k2) k2⟩
        · have := third (h := h) (a := a) (b := b) (c := c) B hL (fun x hx k e => comp x hx k ⟨a, b, c, ha, hb, hc, e⟩)
            ha hb hc (Ne.symm na) sa sb sc tb (fun p hp k1 k2 => Classical.byContradiction fun k3 => more ⟨p, hp, fun k => k3 k.1, k1, k2⟩)
          rcases this with ⟨r, hr, z, t⟩ | ⟨r, hr, s, hs, z1, z2, t, k⟩
          · exact ⟨r, O.zero r hr z, t⟩
          · have lt := nt2_lt (P := P) (a := a) (c := c) (r := r) (s := s) t k
            obtain ⟨w, hw, k⟩ := ih r s (by omega) hr hs z1 z2
            exact ⟨w, hw, fun p hp k1 k2 => k p hp (t p hp k1 k2).1 (t p hp k1 k2).2⟩
end FM
end
section
set_option linter.all false
/-! The double description step keeps the invariant. -/
namespace FM
theorem land_eq {x s : Nat} : x &&& s = s ↔ ∀ i : Nat, s.testBit i = true → x.testBit i = true := by
  constructor
  · intro h i hi
    have := congrArg (fun z => z.testBit i) h
    simp only [Nat.testBit_and, hi, Bool.and_true] at this
    exact this
  · intro h
    refine Nat.eq_of_testBit_eq fun i => ?_
    rw [Nat.testBit_and]
    cases hs : s.testBit i with
    | false => simp
    | true => rw [h i hs]; rfl
variable {n : Nat} {E C : List Vec} {B : Bld} {c : Vec}
theorem Inv.geP (h : Inv n E C B) : ∀ r ∈ B.rays, ∀ p ∈ E ++ C, 0 ≤ dot p r.1 := fun r hr p hp => by
  rcases List.mem_append.mp hp with hp | hp
  · exact Int.le_of_eq (h.eqr r hr p hp).symm
  · exact h.ger r hr p hp
theorem Inv.lr (h : Inv n E C B) : ∀ r ∈ B.rays, r.1.length = n := fun r hr => h.lenr _ (List.mem_map_of_mem hr)
theorem pairwise_ne {α : Type} {D : α → α → Prop} (sym : ∀ a b, D a b → D b a) : ∀ {l : List α}, l.Pairwise D → ∀ a ∈ l, ∀ b ∈ l, a ≠ b → D a b
  | [], _, _, h, _, _ => nomatch h
  | x :: l, hp, a, ha, b, hb => fun ne => by
    rw [List.pairwise_cons] at hp
    rcases List.mem_cons.mp ha with e1 | h1 <;> rcases List.mem_cons.mp hb with e2 | h2
    · exact absurd (e1.trans e2.symm) ne
    · rw [e1]; exact hp.1 b h2
    · rw [e2]; exact sym _ _ (hp.1 a h1)
    · exact pairwise_ne sym hp.2 a h1 b h2 ne
theorem Inv.incv (h : Inv n E C B) : ∀ r ∈ B.rays, ∀ s ∈ B.rays, r.1 ≠ s.1 → ¬ TS (E ++ C) r.1 s.1 := fun r hr s hs ne =>
  (pairwise_ne (D := fun r s => ¬ TS (E ++ C) r.1 s.1 ∧ ¬ TS (E ++ C) s.1 r.1) (fun _ _ q => ⟨q.2, q.1⟩) h.inc r hr s hs fun q => ne (by rw [q])).1
theorem Inv.base (h : Inv n E C B) : Base n (E ++ C) B.lines (B.rays.map (·.1)) where
  lens := h.lens
  lenr := h.lenr
  zero := fun p hp l hl => h.zero l hl p hp
  ge := fun p hp r hr => by
    obtain ⟨r, hq, rfl⟩ := List.mem_map.mp hr
    exact h.geP r hq p hp
  notall := fun r hr => by
    obtain ⟨r, hq, rfl⟩ := List.mem_map.mp hr
    obtain ⟨p, hp, k⟩ := h.notall r hq
    exact ⟨p, by simp [hp], k⟩
  inc := fun r hr s hs ne => by
    obtain ⟨r, hq, rfl⟩ := List.mem_map.mp hr
    obtain ⟨s, hq2, rfl⟩ := List.mem_map.mp hs
    exact h.incv r hq s hq2 ne
/-- the neighbours' test says what it should -/
theorem Inv.nb (h : Inv n E C B) {a b : Vec × Nat} (ha : a ∈ B.rays) (hb : b ∈ B.rays) :
    areNb B.rays a.1 b.1 (a.2 &&& b.2) = true ↔ ∀ r ∈ B.rays, (∀ p ∈ E ++ C, dot p a.1 = 0 → dot p b.1 = 0 → dot p r.1 = 0) → r.1 = a.1 ∨ r.1 = b.1 := by
  have key : ∀ r ∈ B.rays, (r.2 &&& (a.2 &&& b.2) = a.2 &&& b.2) ↔ ∀ p ∈ E ++ C, dot p a.1 = 0 → dot p b.1 = 0 → dot p r.1 = 0 := fun r hr => by
    rw [land_eq]
    constructor
    · intro k p hp z1 z2
      obtain ⟨i, hi, e⟩ := List.getElem_of_mem hp
      have e2 : (E ++ C)[i]? = some p := by rw [List.getElem?_eq_getElem hi, e]
      have := k i (by rw [Nat.testBit_and, (h.mask a ha i).mpr ⟨p, e2, z1⟩, (h.mask b hb i).mpr ⟨p, e2, z2⟩]; rfl)
      obtain ⟨q, e3, z⟩ := (h.mask r hr i).mp this
      rw [e2] at e3
      cases e3
      exact z
    · intro k i hi
      rw [Nat.testBit_and, Bool.and_eq_true] at hi
      obtain ⟨p, e1, z1⟩ := (h.mask a ha i).mp hi.1
      obtain ⟨q, e2, z2⟩ := (h.mask b hb i).mp hi.2
      rw [e1] at e2
      cases e2
      exact (h.mask r hr i).mpr ⟨p, e1, k p (List.mem_of_getElem? e1) z1 z2⟩
  unfold areNb
  rw [List.all_eq_true]
  constructor
  · intro k r hr t
    have := k r hr
    rw [beq_iff_eq.mpr ((key r hr).mpr t)] at this
    simp only [Bool.true_and, Bool.not_eq_true', Bool.and_eq_false_iff, bne_eq_false_iff_eq] at this
    exact this
  · intro k r hr
    simp only [Bool.not_eq_true', Bool.and_eq_false_iff, bne_eq_false_iff_eq, beq_eq_false_iff_ne, ne_eq]
    by_cases t : r.2 &&& (a.2 &&& b.2) = a.2 &&& b.2
    · rcases k r hr ((key r hr).mp t) with q | q
      · exact .inl (.inr q)
      · exact .inr q
    · exact .inl (.inl t)

/-- the fresh vector between two -/
def mid (c a b : Vec) : Vec := primitive (comb (dot c a) b (-dot c b) a)
theorem mid_dot {a b : Vec} (ha : a.length = n) (hb : b.length = n) : (mid c a b).length = n ∧ ∃ g : Int, 0 < g ∧ ∀ w, g * dot w (mid c a b) = dot c a * dot w b - dot c b * dot w a := by
  refine ⟨by unfold mid; rw [primitive_length, comb_len hb ha], ?_⟩
  obtain ⟨g, hg, e⟩ := primitive_spec (comb (dot c a) b (-dot c b) a)
  refine ⟨g, hg, fun w => ?_⟩
  have := congrArg (dot w) e
  rw [dot_comb _ _ _ (hb.trans ha.symm), dot_smul] at this
  unfold mid
  grind
theorem mid_sign {a b p : Vec} (ha : a.length = n) (hb : b.length = n) (sa : 0 < dot c a) (sb : dot c b < 0) (pa : 0 ≤ dot p a) (pb : 0 ≤ dot p b) :
    0 ≤ dot p (mid c a b) ∧ (dot p (mid c a b) = 0 ↔ dot p a = 0 ∧ dot p b = 0) := by
  obtain ⟨_, g, hg, k⟩ := mid_dot (c := c) ha hb
  have e := k p
  have h1 := Int.mul_nonneg (Int.le_of_lt sa) pb
  have h2 := Int.mul_nonneg (a := -dot c b) (b := dot p a) (by omega) pa
  have h3 : (-dot c b) * dot p a = - (dot c b * dot p a) := by grind
  refine ⟨?_, ?_, ?_⟩
  · exact Int.nonneg_of_mul_nonneg_right (by rw [e]; omega) hg
  · intro z
    rw [z] at e
    simp only [Int.mul_zero] at e
    exact ⟨pos_of_mul (k := -dot c b) (by omega) (by omega), pos_of_mul sa (by omega)⟩
  · rintro ⟨z1, z2⟩
    rw [z1, z2] at e
    exact pos_of_mul hg (by rw [e]; simp)
theorem mid_zero {a b : Vec} (ha : a.length = n) (hb : b.length = n) : dot c (mid c a b) = 0 := by
  obtain ⟨_, g, hg, k⟩ := mid_dot (c := c) ha hb
  exact pos_of_mul hg (by rw [k c]; grind)

/-- what the next rays are -/
def nextRays (c : Vec) (B : Bld) : List (Vec × Nat) := keptOf c (2 ^ B.count) B.rays ++ (posOf c B.rays).map (fun r => (r.1, r.2.1)) ++ joined B.rays (posOf c B.rays) (negOf c B.rays) (2 ^ B.count)
theorem mem_kept {x : Vec × Nat} {bit : Nat} {rays : List (Vec × Nat)} : x ∈ keptOf c bit rays ↔ ∃ r ∈ rays, dot c r.1 = 0 ∧ x = (r.1, r.2 ||| bit) := by
  unfold keptOf
  simp only [List.mem_map, List.mem_filter, beq_iff_eq]
  exact ⟨fun ⟨r, ⟨h1, h2⟩, e⟩ => ⟨r, h1, h2, e.symm⟩, fun ⟨r, h1, h2, e⟩ => ⟨r, ⟨h1, h2⟩, e.symm⟩⟩
theorem mem_pos {x : Vec × Nat} {rays : List (Vec × Nat)} : x ∈ (posOf c rays).map (fun r => (r.1, r.2.1)) ↔ x ∈ rays ∧ 0 < dot c x.1 := by
  unfold posOf
  simp only [List.map_map, List.mem_map, List.mem_filter, decide_eq_true_eq, Function.comp]
  exact ⟨fun ⟨r, ⟨h1, h2⟩, e⟩ => by subst e; exact ⟨h1, h2⟩, fun ⟨h1, h2⟩ => ⟨x, ⟨h1, h2⟩, rfl⟩⟩
theorem mem_joined {x : Vec × Nat} {bit : Nat} {rays : List (Vec × Nat)} : x ∈ joined rays (posOf c rays) (negOf c rays) bit ↔
    ∃ a ∈ rays, ∃ b ∈ rays, 0 < dot c a.1 ∧ dot c b.1 < 0 ∧ areNb rays a.1 b.1 (a.2 &&& b.2) = true ∧ x = (mid c a.1 b.1, (a.2 &&& b.2) ||| bit) := by
  unfold joined posOf negOf
  simp only [List.mem_flatMap, List.mem_filterMap, List.mem_map, List.mem_filter, decide_eq_true_eq]
  constructor
  · rintro ⟨_, ⟨a, ⟨h1, h2⟩, rfl⟩, _, ⟨b, ⟨h3, h4⟩, rfl⟩, e⟩
    refine ⟨a, h1, b, h3, h2, h4, ?_⟩
    simp only at e
    split at e
    · rename_i q
      simp only [Option.some.injEq] at e
      exact ⟨q, e.symm⟩
    · cases e
  · rintro ⟨a, h1, b, h3, h2, h4, q, rfl⟩
    refine ⟨(a.1, a.2, dot c a.1), ⟨a, ⟨h1, h2⟩, rfl⟩, (b.1, b.2, dot c b.1), ⟨b, ⟨h3, h4⟩, rfl⟩, ?_⟩
    simp only
    rw [if_pos q]
    rfl
theorem mem_next {x : Vec × Nat} : x ∈ nextRays c B ↔ (∃ r ∈ B.rays, dot c r.1 = 0 ∧ x = (r.1, r.2 ||| 2 ^ B.count)) ∨ (x ∈ B.rays ∧ 0 < dot c x.1) ∨
    ∃ a ∈ B.rays, ∃ b ∈ B.rays, 0 < dot c a.1 ∧ dot c b.1 < 0 ∧ areNb B.rays a.1 b.1 (a.2 &&& b.2) = true ∧ x = (mid c a.1 b.1, (a.2 &&& b.2) ||| 2 ^ B.count) := by
  unfold nextRays
  rw [List.mem_append, List.mem_append, mem_kept, mem_pos, mem_joined, or_assoc]

theorem alg2 (A b x y : Int) : A * x = 1 * (A * x + -b * y) + b * y := by grind
theorem alg3 (A b x y : Int) : A * x + -b * y = A * x - b * y := by grind
/-- completeness behind the step -/
theorem Inv.step_comp (h : Inv n E C B) (hc : c.length = n) (hz : ∀ l ∈ B.lines, dot c l = 0) :
    ∀ v, v.length = n → Sat E (C ++ [c]) v → Gen n B.lines ((nextRays c B).map (·.1)) v := by
  have Bs := h.base
  have satP : ∀ x : Vec, (∀ p ∈ E ++ C, 0 ≤ dot p x) → (∀ e ∈ E, dot e x = 0) → Sat E C x := fun x k k0 => ⟨k0, fun p hp => k p (by simp [hp])⟩
  -- what is offered
  let W : Vec → Prop := fun w => w ∈ (nextRays c B).map (·.1) ∧ dot c w = 0 ∧ w.length = n ∧ (∀ p ∈ E ++ C, 0 ≤ dot p w) ∧ (∃ p ∈ E ++ C, 0 < dot p w) ∧ ∀ e ∈ E, dot e w = 0
  have O : Offer n (E ++ C) B.lines (B.rays.map (·.1)) c W := by
    constructor
    · intro r hr0 z
      obtain ⟨r, hr, rfl⟩ := List.mem_map.mp hr0
      refine ⟨List.mem_map.mpr ⟨(r.1, r.2 ||| 2 ^ B.count), mem_next.mpr (.inl ⟨r, hr, z, rfl⟩), rfl⟩, z, h.lr r hr, h.geP r hr, ?_, h.eqr r hr⟩
      obtain ⟨p, hp, k⟩ := h.notall r hr
      exact ⟨p, by simp [hp], k⟩
    · intro a ha0 b hb0 sa sb k
      obtain ⟨a, ha, rfl⟩ := List.mem_map.mp ha0
      obtain ⟨b, hb, rfl⟩ := List.mem_map.mp hb0
      have nb : areNb B.rays a.1 b.1 (a.2 &&& b.2) = true := (h.nb ha hb).mpr fun r hr t => k r.1 (List.mem_map_of_mem hr) t
      have ms := fun p hp => mid_sign (c := c) (p := p) (h.lr a ha) (h.lr b hb) sa sb (h.geP a ha p hp) (h.geP b hb p hp)
      refine ⟨mid c a.1 b.1, ⟨List.mem_map.mpr ⟨_, mem_next.mpr (.inr (.inr ⟨a, ha, b, hb, sa, sb, nb, rfl⟩)), rfl⟩, mid_zero (h.lr a ha) (h.lr b hb), (mid_dot (c := c) (h.lr a ha) (h.lr b hb)).1, fun p hp => (ms p hp).1, ?_, fun e he => ?_⟩, fun p hp z1 z2 => ((ms p hp).2).mpr ⟨z1, z2⟩⟩
      · obtain ⟨p, hp, k⟩ := h.notall a ha
        have hp2 : p ∈ E ++ C := by simp [hp]
        refine ⟨p, hp2, ?_⟩
        have h1 := (ms p hp2).1
        have h2 : ¬ dot p (mid c a.1 b.1) = 0 := fun z => by
          have := (((ms p hp2).2).mp z).1
          omega
        omega
      · exact ((ms e (by simp [he])).2).mpr ⟨h.eqr a ha e he, h.eqr b hb e he⟩
  have cmp : ∀ x, x.length = n → (∀ p ∈ E ++ C, 0 ≤ dot p x) → (∃ a b d, a ∈ B.rays.map (·.1) ∧ b ∈ B.rays.map (·.1) ∧ d ∈ B.rays.map (·.1) ∧ ∃ s t u w z y : Int, x = comb s (comb t a u d) w (comb z b y d)) → Gen n B.lines (B.rays.map (·.1)) x := by
    rintro x hx k ⟨a, b, d, ha0, hb0, hd0, s, t, u, w, z, y, e⟩
    obtain ⟨a, ha, rfl⟩ := List.mem_map.mp ha0
    obtain ⟨b, hb, rfl⟩ := List.mem_map.mp hb0
    obtain ⟨d, hd, rfl⟩ := List.mem_map.mp hd0
    refine h.comp x hx (satP x k fun q hq => ?_)
    have la := h.lr a ha
    have lb := h.lr b hb
    have ld := h.lr d hd
    rw [e, dot_comb _ _ _ (by simp [la, lb, ld]), dot_comb _ _ _ (by simp [la, lb, ld]), dot_comb _ _ _ (by simp [la, lb, ld]), h.eqr a ha q hq, h.eqr b hb q hq, h.eqr d hd q hq]
    simp
  -- points on c = 0
  have A : ∀ (m : Nat) (v : Vec), nt (E ++ C) v ≤ m → v.length = n → (∀ p ∈ E ++ C, 0 ≤ dot p v) → (∀ e ∈ E, dot e v = 0) → dot c v = 0 → Gen n B.lines ((nextRays c B).map (·.1)) v := by
    intro m
    induction m with
    | zero =>
      intro v hm hv pv ev cv
      have g := h.comp v hv (satP v pv ev)
      obtain ⟨F, hF, gF⟩ := g.face Bs.lens Bs.lenr Bs.zero Bs.ge
      refine (gF.mono (R' := []) (fun l hl => ⟨.line hl, .nline hl⟩) fun r hr => ?_).of_span
      exfalso
      obtain ⟨p, hp, k⟩ := Bs.notall r (hF r hr).1
      have z : dot p v = 0 := by
        have : nt (E ++ C) v = 0 := by omega
        unfold nt at this
        rw [List.countP_eq_zero] at this
        simpa using this p hp
      have := (hF r hr).2 p hp z
      omega
    | succ m ih =>
      intro v hm hv pv ev cv
      have g := h.comp v hv (satP v pv ev)
      obtain ⟨F, hF, gF⟩ := g.face Bs.lens Bs.lenr Bs.zero Bs.ge
      have use : ∀ w, W w → TS (E ++ C) v w → Gen n B.lines ((nextRays c B).map (·.1)) v := by
        rintro w ⟨w1, w2, w3, w4, w5, w6⟩ t
        obtain ⟨p, hp, pw, pvp, xge, xts, lt, _, _⟩ := sub_max hv w3 pv w4 t w5
        have gx := ih (comb (dot p w) v (-dot p v) w) (by omega) (comb_len hv w3) xge (fun e he => by rw [dot_comb _ _ _ (hv.trans w3.symm), ev e he, w6 e he]; simp) (by rw [dot_comb _ _ _ (hv.trans w3.symm), cv, w2]; simp)
        refine .div pw hv ?_
        have e : smul (dot p w) v = comb 1 (comb (dot p w) v (-dot p v) w) (dot p v) w := by
          refine ext_dot (by simp [hv, w3]) fun q _ => ?_
          rw [dot_smul, dot_comb _ _ _ (by simp [hv, w3]), dot_comb _ _ _ (by simp [hv, w3])]
          exact alg2 _ _ _ _
        rw [e]
        exact .comb (by decide) (Int.le_of_lt pvp) gx (.ray w1)
      by_cases hz0 : ∃ r ∈ F, dot c r = 0
      · obtain ⟨r, hr, z⟩ := hz0
        exact use r (O.zero r (hF r hr).1 z) (hF r hr).2
      by_cases hpos : ∃ r ∈ F, 0 < dot c r
      · by_cases hneg : ∃ r ∈ F, dot c r < 0
        · obtain ⟨a, ha, sa⟩ := hpos
          obtain ⟨b, hb, sb⟩ := hneg
          obtain ⟨w, hw, k⟩ := across Bs hz cmp O _ a b (Nat.le_refl _) (hF a ha).1 (hF b hb).1 sa sb
          exact use w hw fun p hp z => k p hp ((hF a ha).2 p hp z) ((hF b hb).2 p hp z)
        · exact (one_side Bs hz (fun r hr => (hF r hr).1) gF cv (.inl fun r hr => by
            have h1 : ¬ dot c r = 0 := fun z => hz0 ⟨r, hr, z⟩
            have h2 : ¬ dot c r < 0 := fun z => hneg ⟨r, hr, z⟩
            omega)).of_span
      · exact (one_side Bs hz (fun r hr => (hF r hr).1) gF cv (.inr fun r hr => by
          have h1 : ¬ dot c r = 0 := fun z => hz0 ⟨r, hr, z⟩
          have h2 : ¬ 0 < dot c r := fun z => hpos ⟨r, hr, z⟩
          omega)).of_span
  -- all points
  have A2 : ∀ (m : Nat) (v : Vec), nt (E ++ C) v ≤ m → v.length = n → (∀ p ∈ E ++ C, 0 ≤ dot p v) → (∀ e ∈ E, dot e v = 0) → 0 ≤ dot c v → Gen n B.lines ((nextRays c B).map (·.1)) v := by
    intro m
    induction m with
    | zero =>
      intro v hm hv pv ev cv
      refine A 0 v hm hv pv ev ?_
      have g := h.comp v hv (satP v pv ev)
      obtain ⟨F, hF, gF⟩ := g.face Bs.lens Bs.lenr Bs.zero Bs.ge
      refine gF.dot_zero Bs.lens (fun r hr => Bs.lenr r (hF r hr).1) hz fun r hr => ?_
      exfalso
      obtain ⟨p, hp, k⟩ := Bs.notall r (hF r hr).1
      have z : dot p v = 0 := by
        have : nt (E ++ C) v = 0 := by omega
        unfold nt at this
        rw [List.countP_eq_zero] at this
        simpa using this p hp
      have := (hF r hr).2 p hp z
      omega
    | succ m ih =>
      intro v hm hv pv ev cv
      rcases Int.lt_or_eq_of_le cv with cv | cv
      · have g := h.comp v hv (satP v pv ev)
        obtain ⟨F, hF, gF⟩ := g.face Bs.lens Bs.lenr Bs.zero Bs.ge
        obtain ⟨r, hr, sr⟩ : ∃ r ∈ F, 0 < dot c r := by
          refine Classical.byContradiction fun no => ?_
          have := gF.dot_nonneg (c := neg c) Bs.lens (fun r hr => Bs.lenr r (hF r hr).1) (fun l hl => by rw [dot_comm, dot_neg, dot_comm, hz l hl]; rfl)
            (fun r hr => by rw [dot_comm, dot_neg, dot_comm]; have : ¬ 0 < dot c r := fun z => no ⟨r, hr, z⟩; omega)
          rw [dot_comm, dot_neg, dot_comm] at this
          omega
        obtain ⟨r, hr', rfl⟩ := List.mem_map.mp (hF r hr).1
        have lr := h.lr r hr'
        have rN : r.1 ∈ (nextRays c B).map (·.1) := List.mem_map.mpr ⟨r, mem_next.mpr (.inr (.inl ⟨hr', sr⟩)), rfl⟩
        have sm : ∃ p ∈ E ++ C, 0 < dot p r.1 := Bs.notall r.1 (List.mem_map_of_mem hr')
        obtain ⟨p, hp, pw, pvp, xge, xts, lt, least, _⟩ := sub_max hv lr pv (h.geP r hr') (hF _ hr).2 sm
        by_cases cx : 0 ≤ dot c (comb (dot p r.1) v (-dot p v) r.1)
        · have gx := ih _ (by omega) (comb_len hv lr) xge (fun e he => by rw [dot_comb _ _ _ (hv.trans lr.symm), ev e he, h.eqr r hr' e he]; simp) cx
          refine .div pw hv ?_
          have e : smul (dot p r.1) v = comb 1 (comb (dot p r.1) v (-dot p v) r.1) (dot p v) r.1 := by
            refine ext_dot (by simp [hv, lr]) fun q _ => ?_
            rw [dot_smul, dot_comb _ _ _ (by simp [hv, lr]), dot_comb _ _ _ (by simp [hv, lr])]
            exact alg2 _ _ _ _
          rw [e]
          exact .comb (by decide) (Int.le_of_lt pvp) gx (.ray rN)
        · have ye : ∀ q, dot q (comb (dot c r.1) v (-dot c v) r.1) = dot c r.1 * dot q v - dot c v * dot q r.1 := fun q => by rw [dot_comb _ _ _ (hv.trans lr.symm)]; exact alg3 _ _ _ _
          rw [dot_comb _ _ _ (hv.trans lr.symm)] at cx
          have yts : TS (E ++ C) v (comb (dot c r.1) v (-dot c v) r.1) := fun q hq z => by rw [ye q, z, (hF _ hr).2 q hq z]; simp
          have gy := A _ (comb (dot c r.1) v (-dot c v) r.1) (Nat.le_refl _) (comb_len hv lr) (fun q hq => by
            rw [ye q]
            by_cases gq : 0 < dot q r.1
            · have k := least q hq gq
              exact quot_le pw sr gq k (by omega)
            · have h0 : dot q r.1 = 0 := by have := h.geP r hr' q hq; omega
              rw [h0]
              have := Int.mul_nonneg (Int.le_of_lt sr) (pv q hq)
              omega) (fun e he => by rw [ye e, ev e he, h.eqr r hr' e he]; simp) (by rw [ye c, Int.mul_comm]; omega)
          refine .div sr hv ?_
          have e : smul (dot c r.1) v = comb 1 (comb (dot c r.1) v (-dot c v) r.1) (dot c v) r.1 := by
            refine ext_dot (by simp [hv, lr]) fun q _ => ?_
            rw [dot_smul, dot_comb _ _ _ (by simp [hv, lr]), dot_comb _ _ _ (by simp [hv, lr])]
            exact alg2 _ _ _ _
          rw [e]
          exact .comb (by decide) (Int.le_of_lt cv) gy (.ray rN)
      · exact A _ v (Nat.le_refl _) hv pv ev cv.symm
  intro v hv s
  exact A2 _ v (Nat.le_refl _) hv (fun p hp => by
    rcases List.mem_append.mp hp with hp | hp
    · exact Int.le_of_eq (s.1 p hp).symm
    · exact s.2 p (by simp [hp])) s.1 (s.2 c (by simp))
where
  quot_le {A B qv qr cv cr : Int} (hA : 0 < A) (hcr : 0 < cr) (hq : 0 < qr) (k : B * qr ≤ qv * A) (cx : A * cv + -B * cr < 0) : 0 ≤ cr * qv - cv * qr := by
    have h1 : cr * (B * qr) ≤ cr * (qv * A) := Int.mul_le_mul_of_nonneg_left k (Int.le_of_lt hcr)
    have h2 : (A * cv + -B * cr) * qr ≤ 0 := Int.mul_nonpos_of_nonpos_of_nonneg (by omega) (Int.le_of_lt hq)
    have h3 : 0 ≤ (cr * qv - cv * qr) * A := by grind
    exact Int.nonneg_of_mul_nonneg_left h3 hA
end FM
end
section
set_option linter.all false
/-! The invariant behind every call of add; the cone of equations and conditions. -/
namespace FM
variable {n : Nat} {E C : List Vec} {B : Bld} {c : Vec}
theorem TS.last {P : List Vec} {c u v : Vec} (h : TS (P ++ [c]) u v) : TS P u v := fun p hp z => h p (List.mem_append_left _ hp) z
theorem Inv.fresh_ts (h : Inv n E C B) {a b : Vec × Nat} (ha : a ∈ B.rays) (hb : b ∈ B.rays) (sa : 0 < dot c a.1) (sb : dot c b.1 < 0) :
    ∀ p ∈ E ++ C, dot p (mid c a.1 b.1) = 0 ↔ dot p a.1 = 0 ∧ dot p b.1 = 0 := fun p hp =>
  (mid_sign (h.lr a ha) (h.lr b hb) sa sb (h.geP a ha p hp) (h.geP b hb p hp)).2
theorem Inv.step (h : Inv n E C B) (hc : c.length = n) (e : turnLine c B = none) : Inv n E (C ++ [c]) ⟨B.lines, nextRays c B, B.count + 1⟩ := by
  have hz := turnLine_none e
  have assoc : E ++ (C ++ [c]) = (E ++ C) ++ [c] := by rw [List.append_assoc]
  have D := fun (r s : Vec × Nat) (hr : r ∈ B.rays) (hs : s ∈ B.rays) (ne : r.1 ≠ s.1) => h.incv r hr s hs ne
  refine ⟨h.lens, h.liml, ?_, ?_, ?_, ?_, ?_, ?_, ?_, ?_, h.step_comp hc hz, ?_⟩
  · intro x hx
    obtain ⟨y, hy, rfl⟩ := List.mem_map.mp hx
    rcases mem_next.mp hy with ⟨r, hr, z, rfl⟩ | ⟨hr, z⟩ | ⟨a, ha, b, hb, sa, sb, nb, rfl⟩
    · exact h.lr r hr
    · exact h.lr y hr
    · exact (mid_dot (c := c) (h.lr a ha) (h.lr b hb)).1
  · intro l hl p hp
    rw [assoc] at hp
    rcases List.mem_append.mp hp with hp | hp
    · exact h.zero l hl p hp
    · rw [List.mem_singleton] at hp; rw [hp]; exact hz l hl
  · intro y hy p hp
    rcases mem_next.mp hy with ⟨r, hr, z, rfl⟩ | ⟨hr, z⟩ | ⟨a, ha, b, hb, sa, sb, nb, rfl⟩
    · exact h.eqr r hr p hp
    · exact h.eqr y hr p hp
    · exact (h.fresh_ts ha hb sa sb p (by simp [hp])).mpr ⟨h.eqr a ha p hp, h.eqr b hb p hp⟩
  · intro y hy p hp
    rcases mem_next.mp hy with ⟨r, hr, z, rfl⟩ | ⟨hr, z⟩ | ⟨a, ha, b, hb, sa, sb, nb, rfl⟩
    · rcases List.mem_append.mp hp with hp | hp
      · exact h.ger r hr p hp
      · rw [List.mem_singleton] at hp; rw [hp]; exact Int.le_of_eq z.symm
    · rcases List.mem_append.mp hp with hp | hp
      · exact h.ger y hr p hp
      · rw [List.mem_singleton] at hp; rw [hp]; exact Int.le_of_lt z
    · rcases List.mem_append.mp hp with hp | hp
      · exact (mid_sign (h.lr a ha) (h.lr b hb) sa sb (h.ger a ha p hp) (h.ger b hb p hp)).1
      · rw [List.mem_singleton] at hp; rw [hp]; exact Int.le_of_eq (mid_zero (h.lr a ha) (h.lr b hb)).symm
  · show B.count + 1 = _
    rw [h.cnt]; simp; omega
  · intro y hy
    rw [assoc]
    rcases mem_next.mp hy with ⟨r, hr, z, rfl⟩ | ⟨hr, z⟩ | ⟨a, ha, b, hb, sa, sb, nb, rfl⟩
    · exact mask_or h.cnt (h.mask r hr) z
    · exact mask_keep (h.mask y hr) (by omega)
    · refine mask_or h.cnt (fun i => ?_) (mid_zero (h.lr a ha) (h.lr b hb))
      rw [Nat.testBit_and, Bool.and_eq_true, h.mask a ha i, h.mask b hb i]
      constructor
      · rintro ⟨⟨p, h1, h2⟩, ⟨q, h3, h4⟩⟩
        rw [h1] at h3
        cases h3
        exact ⟨p, h1, (h.fresh_ts ha hb sa sb p (List.mem_of_getElem? h1)).mpr ⟨h2, h4⟩⟩
      · rintro ⟨p, h1, h2⟩
        have := (h.fresh_ts ha hb sa sb p (List.mem_of_getElem? h1)).mp h2
        exact ⟨⟨p, h1, this.1⟩, ⟨p, h1, this.2⟩⟩
  · intro y hy
    rcases mem_next.mp hy with ⟨r, hr, z, rfl⟩ | ⟨hr, z⟩ | ⟨a, ha, b, hb, sa, sb, nb, rfl⟩
    · obtain ⟨p, hp, k⟩ := h.notall r hr
      exact ⟨p, by simp [hp], k⟩
    · obtain ⟨p, hp, k⟩ := h.notall y hr
      exact ⟨p, by simp [hp], k⟩
    · obtain ⟨p, hp, k⟩ := h.notall a ha
      refine ⟨p, by simp [hp], ?_⟩
      have h1 := (mid_sign (c := c) (p := p) (h.lr a ha) (h.lr b hb) sa sb (h.ger a ha p hp) (h.ger b hb p hp))
      have h2 : ¬ dot p (mid c a.1 b.1) = 0 := fun z => by
        have := (h1.2.mp z).1
        omega
      have := h1.1
      show 0 < dot p (mid c a.1 b.1)
      omega
  · -- incomparable
    rw [assoc]
    have old : ∀ r s : Vec × Nat, (¬ TS (E ++ C) r.1 s.1 ∧ ¬ TS (E ++ C) s.1 r.1) → ¬ TS ((E ++ C) ++ [c]) r.1 s.1 ∧ ¬ TS ((E ++ C) ++ [c]) s.1 r.1 := fun r s k => ⟨fun t => k.1 t.last, fun t => k.2 t.last⟩
    have nbx : ∀ a b : Vec × Nat, a ∈ B.rays → b ∈ B.rays → areNb B.rays a.1 b.1 (a.2 &&& b.2) = true → 0 < dot c a.1 → dot c b.1 < 0 → ∀ r ∈ B.rays, TS (E ++ C) (mid c a.1 b.1) r.1 → r.1 = a.1 ∨ r.1 = b.1 := fun a b ha hb nb sa sb r hr t =>
      (h.nb ha hb).mp nb r hr fun p hp z1 z2 => t p hp ((h.fresh_ts ha hb sa sb p hp).mpr ⟨z1, z2⟩)
    unfold nextRays
    rw [List.pairwise_append, List.pairwise_append]
    refine ⟨⟨?_, ?_, ?_⟩, ?_, ?_⟩
    · unfold keptOf
      rw [List.pairwise_map]
      exact (h.inc.filter _).imp fun {r s} k => old r s k
    · unfold posOf
      rw [List.map_map, List.pairwise_map]
      exact (h.inc.filter _).imp fun {r s} k => old r s k
    · intro x hx y hy
      obtain ⟨r, hr, z, rfl⟩ := mem_kept.mp hx
      obtain ⟨hs, z2⟩ := mem_pos.mp hy
      have ne : r.1 ≠ y.1 := fun q => by rw [q] at z; omega
      exact old (r.1, r.2 ||| 2 ^ B.count) y ⟨D r y hr hs ne, D y r hs hr (Ne.symm ne)⟩
    · unfold joined posOf negOf
      rw [List.pairwise_flatMap]
      have pw : B.rays.Pairwise fun r s => r.1 ≠ s.1 := h.inc.imp fun {r s} k q => k.1 (by rw [q]; exact TS.refl _ _)
      have cross : ∀ a b a' b' : Vec × Nat, a ∈ B.rays → b ∈ B.rays → a' ∈ B.rays → b' ∈ B.rays → 0 < dot c a.1 → dot c b.1 < 0 → 0 < dot c a'.1 → dot c b'.1 < 0 → areNb B.rays a.1 b.1 (a.2 &&& b.2) = true →
          TS ((E ++ C) ++ [c]) (mid c a.1 b.1) (mid c a'.1 b'.1) → a'.1 = a.1 ∧ b'.1 = b.1 := fun a b a' b' ha hb ha' hb' sa sb sa' sb' nb t => by
        have t2 := t.last
        have q1 := nbx a b ha hb nb sa sb a' ha' fun p hp z => ((h.fresh_ts ha' hb' sa' sb' p hp).mp (t2 p hp z)).1
        have q2 := nbx a b ha hb nb sa sb b' hb' fun p hp z => ((h.fresh_ts ha' hb' sa' sb' p hp).mp (t2 p hp z)).2
        constructor
        · rcases q1 with q | q
          · exact q
          · rw [q] at sa'; omega
        · rcases q2 with q | q
          · rw [q] at sb'; omega
          · exact q
      constructor
      · intro p hp
        obtain ⟨a, ha0, rfl⟩ := List.mem_map.mp hp
        obtain ⟨ha, sa⟩ := List.mem_filter.mp ha0
        rw [decide_eq_true_eq] at sa
        rw [List.pairwise_filterMap, List.pairwise_map]
        refine (List.Pairwise.and_mem.mp (pw.filter _)).imp ?_
        rintro b b' ⟨hb0, hb0', ne⟩ x hx y hy
        obtain ⟨hb, sb⟩ := List.mem_filter.mp hb0
        obtain ⟨hb', sb'⟩ := List.mem_filter.mp hb0'
        rw [decide_eq_true_eq] at sb sb'
        simp only [Option.mem_def] at hx hy
        split at hx
        · rename_i nb
          split at hy
          · rename_i nb'
            simp only [Option.some.injEq] at hx hy
            subst hx hy
            exact ⟨fun t => ne (cross a b a b' ha hb ha hb' sa sb sa sb' nb t).2.symm, fun t => ne (cross a b' a b ha hb' ha hb sa sb' sa sb nb' t).2⟩
          · cases hy
        · cases hx
      · rw [List.pairwise_map]
        refine (List.Pairwise.and_mem.mp (pw.filter _)).imp ?_
        rintro a a' ⟨ha0, ha0', ne⟩ x hx y hy
        obtain ⟨ha, sa⟩ := List.mem_filter.mp ha0
        obtain ⟨ha', sa'⟩ := List.mem_filter.mp ha0'
        rw [decide_eq_true_eq] at sa sa'
        simp only [List.mem_filterMap, List.mem_map] at hx hy
        obtain ⟨_, ⟨b, hb0, rfl⟩, hx⟩ := hx
        obtain ⟨_, ⟨b', hb0', rfl⟩, hy⟩ := hy
        obtain ⟨hb, sb⟩ := List.mem_filter.mp hb0
        obtain ⟨hb', sb'⟩ := List.mem_filter.mp hb0'
        rw [decide_eq_true_eq] at sb sb'
        split at hx
        · rename_i nb
          split at hy
          · rename_i nb'
            simp only [Option.some.injEq] at hx hy
            subst hx hy
            exact ⟨fun t => ne (cross a b a' b' ha hb ha' hb' sa sb sa' sb' nb t).1.symm, fun t => ne (cross a' b' a b ha' hb' ha hb sa' sb' sa sb nb' t).1⟩
          · cases hy
        · cases hx
    · intro x hx y hy
      obtain ⟨a, ha, b, hb, sa, sb, nb, rfl⟩ := mem_joined.mp hy
      have ft := h.fresh_ts ha hb sa sb
      rcases List.mem_append.mp hx with hx | hx
      · obtain ⟨r, hr, z, rfl⟩ := mem_kept.mp hx
        constructor
        · intro t
          have ne : r.1 ≠ a.1 := fun q => by rw [q] at z; omega
          exact D r a hr ha ne fun p hp z0 => ((ft p hp).mp (t.last p hp z0)).1
        · intro t
          rcases nbx a b ha hb nb sa sb r hr t.last with q | q
          · rw [q] at z; omega
          · rw [q] at z; omega
      · obtain ⟨hr, z⟩ := mem_pos.mp hx
        constructor
        · intro t
          have ne : x.1 ≠ b.1 := fun q => by rw [q] at z; omega
          exact D x b hr hb ne fun p hp z0 => ((ft p hp).mp (t.last p hp z0)).2
        · intro t
          have := t c (by simp) (mid_zero (h.lr a ha) (h.lr b hb))
          omega
  · intro y hy
    rcases mem_next.mp hy with ⟨r, hr, z, rfl⟩ | ⟨hr, z⟩ | ⟨a, ha, b, hb, sa, sb, nb, rfl⟩
    · exact h.prim r hr
    · exact h.prim y hr
    · obtain ⟨p, hp, k⟩ := h.notall a ha
      have h1 := (mid_sign (c := c) (p := p) (h.lr a ha) (h.lr b hb) sa sb (h.ger a ha p hp) (h.ger b hb p hp))
      refine gcd_one (p := p) (primitive_le _) fun z => ?_
      have := (h1.2.mp z).1
      omega
theorem Inv.add (h : Inv n E C B) (hc : c.length = n) : Inv n E (C ++ [c]) (add c false B) := by
  unfold FM.add
  split
  · rename_i l ls rs e
    exact h.turn hc e
  · rename_i e
    exact h.step hc e

/-! ### the whole of dual's builder -/
def unit (n k : Nat) : Vec := (List.range n).map fun i => if i = k then 1 else 0
def start (n : Nat) : Bld := ⟨(List.range n).map (unit n), [], 0⟩
def addEqs (E : List Vec) (B : Bld) : Bld := E.foldl (fun B e => add e true B) B
def addConds (C : List Vec) (B : Bld) : Bld := C.foldl (fun B c => add c false B) B
def built (n : Nat) (E C : List Vec) : Bld := addConds C (addEqs E (start n))
theorem addEqs_inv : ∀ {E E0 : List Vec} {B : Bld}, InvE n E0 B → Lens n E → InvE n (E0 ++ E) (addEqs E B)
  | [], E0, B, h, _ => by rw [List.append_nil]; exact h
  | e :: E, E0, B, h, hl => by
    have := addEqs_inv (E := E) (h.add (hl e (by simp))) fun x hx => hl x (by simp [hx])
    rw [List.append_assoc] at this
    exact this
theorem addConds_inv : ∀ {C C0 : List Vec} {B : Bld}, Inv n E C0 B → Lens n C → Inv n E (C0 ++ C) (addConds C B)
  | [], C0, B, h, _ => by rw [List.append_nil]; exact h
  | e :: C, C0, B, h, hl => by
    have := addConds_inv (C := C) (h.add (hl e (by simp))) fun x hx => hl x (by simp [hx])
    rw [List.append_assoc] at this
    exact this
theorem unit_length (n k : Nat) : (unit n k).length = n := by simp [unit]
/-- sums of units -/
theorem unit_succ (n k : Nat) : unit (n + 1) (k + 1) = 0 :: unit n k := by
  unfold unit
  rw [List.range_succ_eq_map]
  simp
theorem unit_zero (n : Nat) : unit (n + 1) 0 = 1 :: zeros n := by
  unfold unit zeros
  rw [List.range_succ_eq_map]
  simp
  rw [List.eq_replicate_iff]
  simp
theorem zeros_succ (n : Nat) : zeros (n + 1) = 0 :: zeros n := by simp [zeros, List.replicate_succ]
theorem gen_units : ∀ (n : Nat) (v : Vec), v.length = n → Gen n ((List.range n).map (unit n)) [] v
  | 0, v, h => by
    have : v = zeros 0 := by rw [List.length_eq_zero_iff.mp h]; rfl
    rw [this]; exact .zero
  | n + 1, [], h => by simp at h
  | n + 1, x :: v, h => by
    have hv : v.length = n := by simpa using h
    have g := gen_units n v hv
    have lift : ∀ u, Gen n ((List.range n).map (unit n)) [] u → Gen (n + 1) ((List.range (n + 1)).map (unit (n + 1))) [] (0 :: u) := by
      intro u hu
      induction hu with
      | zero => rw [← zeros_succ]; exact .zero
      | line h =>
        obtain ⟨k, hk, rfl⟩ := List.mem_map.mp h
        rw [← unit_succ]
        exact .line (List.mem_map.mpr ⟨k + 1, by simpa using hk, rfl⟩)
      | nline h =>
        obtain ⟨k, hk, rfl⟩ := List.mem_map.mp h
        have : (0 : Int) :: neg (unit n k) = neg (unit (n + 1) (k + 1)) := by rw [unit_succ]; simp [neg]
        rw [this]
        exact .nline (List.mem_map.mpr ⟨k + 1, by simpa using hk, rfl⟩)
      | ray h => nomatch h
      | @comb u v a b ha hb _ _ i j =>
        have := Gen.comb ha hb i j
        simpa [comb_cons] using this
      | @div k v hk hl _ i =>
        refine .div hk (by simp [hl]) ?_
        have e : smul k (0 :: v) = 0 :: smul k v := by simp [smul]
        rw [e]; exact i
    have e : x :: v = comb 1 (0 :: v) x (unit (n + 1) 0) := by
      rw [unit_zero, comb_cons]
      congr 1
      · simp
      · refine ext_dot (by simp [hv]) fun w _ => ?_
        rw [dot_comb _ _ _ (by simp [hv]), dot_zeros]; simp
    rw [e]
    exact (lift v g).span_comb (.line (List.mem_map.mpr ⟨0, by simp, rfl⟩))
theorem gcdL_unit : ∀ (n k : Nat), gcdL (unit n k) ≤ 1
  | 0, k => by simp [unit]
  | n + 1, 0 => by rw [unit_zero, gcdL_cons, gcdL_zeros]; simp
  | n + 1, k + 1 => by rw [unit_succ, gcdL_cons]; simpa using gcdL_unit n k
theorem start_inv (n : Nat) : InvE n [] (start n) where
  lens := fun l hl => by
    obtain ⟨k, _, rfl⟩ := List.mem_map.mp hl
    exact unit_length n k
  liml := fun l hl => by
    obtain ⟨k, _, rfl⟩ := List.mem_map.mp hl
    exact gcdL_unit n k
  zero := fun _ _ _ h => nomatch h
  norays := rfl
  cnt := rfl
  comp := fun v hv _ => gen_units n v hv
theorem built_inv {n : Nat} {E C : List Vec} (hE : Lens n E) (hC : Lens n C) : Inv n E C (built n E C) := by
  have h1 := addEqs_inv (start_inv n) hE
  rw [List.nil_append] at h1
  have h2 := addConds_inv h1.start hC
  rw [List.nil_append] at h2
  exact h2
/-- the builder's lines and rays generate the cone, no more and no less -/
theorem built_iff {n : Nat} {E C : List Vec} (hE : Lens n E) (hC : Lens n C) (v : Vec) :
    Gen n (built n E C).lines ((built n E C).rays.map (·.1)) v ↔ v.length = n ∧ Sat E C v := by
  have I := built_inv hE hC
  constructor
  · intro g
    refine ⟨g.len I.lens I.lenr, fun e he => ?_, fun c hc => ?_⟩
    · exact g.dot_zero I.lens I.lenr (fun l hl => I.zero l hl e (by simp [he])) fun r hr => by
        obtain ⟨r, hq, rfl⟩ := List.mem_map.mp hr
        exact I.eqr r hq e he
    · exact g.dot_nonneg I.lens I.lenr (fun l hl => I.zero l hl c (by simp [hc])) fun r hr => by
        obtain ⟨r, hq, rfl⟩ := List.mem_map.mp hr
        exact I.ger r hq c hc
  · rintro ⟨hv, s⟩
    exact I.comp v hv s
end FM
end
section
set_option linter.all false
/-! Echelon form, reduction by rows, uniqueness. -/
namespace FM
def col (v : Vec) (c : Nat) : Int := v.getD c 0
def firstNZ : Vec → Option Nat
  | [] => none
  | x :: v => if x ≠ 0 then some 0 else (firstNZ v).map (· + 1)
/-- the first column that is not 0, where column 0 comes last -/
def pivotOf : Vec → Option Nat
  | [] => none
  | x :: v => match firstNZ v with
    | some k => some (k + 1)
    | none => if x ≠ 0 then some 0 else none
theorem pivotOf_cons (x : Int) (v : Vec) : pivotOf (x :: v) = match firstNZ v with
    | some k => some (k + 1)
    | none => if x ≠ 0 then some 0 else none := rfl
def pv (v : Vec) : Nat := (pivotOf v).getD 0
/-- the place of a column in the order 1, 2, .., n - 1, 0 -/
def ord (n c : Nat) : Nat := if c = 0 then n - 1 else c - 1
def clr (v row : Vec) (c : Nat) : Vec := if col v c = 0 then v else primitive (comb (col row c) v (-col v c) row)
def clears (v : Vec) (rows : List Vec) : Vec := rows.foldl (fun r k => clr r k (pv k)) v
def signed (v : Vec) (c : Nat) : Vec := if col v c < 0 then neg v else v
def echStep (found : List Vec) (row : Vec) : List Vec :=
  match pivotOf (clears row found) with
  | none => found
  | some c => (found.map fun k => clr k (signed (primitive (clears row found)) c) c) ++ [signed (primitive (clears row found)) c]
def echRaw (rows : List Vec) : List Vec := rows.foldl echStep []
def keyOf (n : Nat) (v : Vec) : Int := ((pv v : Int) - 1) % (n : Int)
def echelon (n : Nat) (rows : List Vec) : List Vec := (echRaw rows).mergeSort fun a b => decide (keyOf n a ≤ keyOf n b)
def reduced (v : Vec) (rows : List Vec) : Vec := clears (primitive v) rows

theorem firstNZ_some : ∀ {v : Vec} {k : Nat}, firstNZ v = some k → k < v.length ∧ col v k ≠ 0 ∧ ∀ j, j < k → col v j = 0
  | [], _, h => by simp [firstNZ] at h
  | x :: v, k, h => by
    unfold firstNZ at h
    split at h
    · cases h
      rename_i hx
      exact ⟨by simp, by simpa [col] using hx, fun j hj => absurd hj (Nat.not_lt_zero j)⟩
    · rename_i hx
      have hx0 : x = 0 := Decidable.not_not.mp hx
      rw [Option.map_eq_some_iff] at h
      obtain ⟨m, hm, rfl⟩ := h
      obtain ⟨h1, h2, h3⟩ := firstNZ_some hm
      refine ⟨by simpa using h1, by simpa [col] using h2, fun j hj => ?_⟩
      cases j with
      | zero => simp [col, hx0]
      | succ j =>
        have := h3 j (by omega)
        simpa [col] using this
theorem firstNZ_none : ∀ {v : Vec}, firstNZ v = none → v = zeros v.length
  | [], _ => rfl
  | x :: v, h => by
    unfold firstNZ at h
    split at h
    · cases h
    · rename_i hx
      have hx0 : x = 0 := Decidable.not_not.mp hx
      rw [Option.map_eq_none_iff] at h
      rw [List.length_cons, zeros_succ, ← firstNZ_none h, hx0]
theorem col_zeros (n c : Nat) : col (zeros n) c = 0 := by
  unfold col zeros
  rw [List.getD_eq_getElem?_getD, List.getElem?_replicate]
  split <;> rfl
theorem pivotOf_some {v : Vec} {p : Nat} (h : pivotOf v = some p) : p < v.length ∧ col v p ≠ 0 ∧ ∀ c, c < v.length → ord v.length c < ord v.length p → col v c = 0 := by
  cases v with
  | nil => simp [pivotOf] at h
  | cons x v =>
    rw [pivotOf_cons] at h
    split at h
    · rename_i k hk
      cases h
      obtain ⟨h1, h2, h3⟩ := firstNZ_some hk
      refine ⟨by simpa using h1, by simpa [col] using h2, fun c hc ho => ?_⟩
      unfold ord at ho
      rw [List.length_cons] at hc ho
      cases c with
      | zero => simp at ho; omega
      | succ c => simpa [col] using h3 c (by simp at ho; omega)
    · rename_i hk
      split at h
      · cases h
        rename_i hx
        have hz := firstNZ_none hk
        refine ⟨by simp, by simpa [col] using hx, fun c hc ho => ?_⟩
        cases c with
        | zero => omega
        | succ c =>
          have : col (x :: v) (c + 1) = col v c := by simp [col]
          rw [this, hz, col_zeros]
      · cases h
theorem pivotOf_none {v : Vec} (h : pivotOf v = none) : v = zeros v.length := by
  cases v with
  | nil => rfl
  | cons x v =>
    rw [pivotOf_cons] at h
    split at h
    · cases h
    · rename_i hk
      split at h
      · cases h
      · rename_i hx
        have hx0 : x = 0 := Decidable.not_not.mp hx
        rw [List.length_cons, zeros_succ, ← firstNZ_none hk, hx0]
theorem ord_inj {n a b : Nat} (ha : a < n) (hb : b < n) (h : ord n a = ord n b) : a = b := by
  unfold ord at h
  split at h <;> split at h <;> omega
/-- what makes a column the pivot -/
theorem pivotOf_of {v : Vec} {p : Nat} (h1 : p < v.length) (h2 : col v p ≠ 0) (h3 : ∀ c, c < v.length → ord v.length c < ord v.length p → col v c = 0) : pivotOf v = some p := by
  cases e : pivotOf v with
  | none =>
    have := pivotOf_none e
    rw [this, col_zeros] at h2
    exact absurd rfl h2
  | some q =>
    obtain ⟨k1, k2, k3⟩ := pivotOf_some e
    rcases Nat.lt_trichotomy (ord v.length q) (ord v.length p) with h | h | h
    · exact absurd (h3 q k1 h) k2
    · rw [ord_inj k1 h1 h]
    · exact absurd (k3 p h1 h) h2
theorem col_unit : ∀ {n c : Nat} {v : Vec}, v.length = n → c < n → dot (unit n c) v = col v c
  | 0, _, _, _, h => absurd h (Nat.not_lt_zero _)
  | n + 1, _, [], h, _ => by simp at h
  | n + 1, 0, x :: v, h, _ => by
    rw [unit_zero, dot_cons, dot_comm, dot_zeros]
    simp [col]
  | n + 1, c + 1, x :: v, h, hc => by
    rw [unit_succ, dot_cons, col_unit (n := n) (c := c) (v := v) (by simpa using h) (by omega)]
    simp [col]
theorem col_comb {n c : Nat} {a b : Int} {u v : Vec} (hu : u.length = n) (hv : v.length = n) (hc : c < n) : col (comb a u b v) c = a * col u c + b * col v c := by
  rw [← col_unit (comb_len hu hv) hc, dot_comb _ _ _ (hu.trans hv.symm), col_unit hu hc, col_unit hv hc]
theorem col_smul {n c : Nat} {k : Int} {v : Vec} (hv : v.length = n) (hc : c < n) : col (smul k v) c = k * col v c := by
  rw [← col_unit (n := n) (by simpa using hv) hc, dot_smul, col_unit hv hc]
theorem col_neg {n c : Nat} {v : Vec} (hv : v.length = n) (hc : c < n) : col (neg v) c = - col v c := by
  rw [← col_unit (n := n) (by simpa using hv) hc, dot_neg, col_unit hv hc]

/-- one span: a positive multiple of one and some multiple of the other differ by the span of L -/
def Near (n : Nat) (L : List Vec) (u v : Vec) : Prop := ∃ a b : Int, 0 < a ∧ 0 < b ∧ Gen n L [] (comb a u (-b) v)
variable {n : Nat} {L : List Vec} {u v w : Vec}
theorem Near.refl (hu : u.length = n) : Near n L u u := ⟨1, 1, by decide, by decide, by
  have : comb 1 u (-1) u = zeros n := ext_dot (by simp [hu]) fun w _ => by rw [dot_comb _ _ _ rfl, dot_zeros]; grind
  rw [this]; exact .zero⟩
theorem Near.trans (hu : u.length = n) (hv : v.length = n) (hw : w.length = n) (h : Near n L u v) (h2 : Near n L v w) : Near n L u w := by
  obtain ⟨a, b, ha, hb, g⟩ := h
  obtain ⟨c, d, hc, hd, g2⟩ := h2
  refine ⟨c * a, b * d, Int.mul_pos hc ha, Int.mul_pos hb hd, ?_⟩
  have := Gen.comb (Int.le_of_lt hc) (Int.le_of_lt hb) g g2
  have e : comb c (comb a u (-b) v) b (comb c v (-d) w) = comb (c * a) u (-(b * d)) w := by
    refine ext_dot (by simp [hu, hv, hw]) fun q _ => ?_
    rw [dot_comb _ _ _ (by simp [hu, hv, hw]), dot_comb _ _ _ (by simp [hu, hv, hw]), dot_comb _ _ _ (by simp [hu, hv, hw]), dot_comb _ _ _ (by simp [hu, hv, hw])]
    grind
  rw [← e]; exact this
theorem Near.mono {L' : List Vec} (h : Near n L u v) (k : ∀ l ∈ L, l ∈ L') : Near n L' u v := by
  obtain ⟨a, b, ha, hb, g⟩ := h
  exact ⟨a, b, ha, hb, g.mono (R' := []) (fun l hl => ⟨.line (k l hl), .nline (k l hl)⟩) fun r hr => nomatch hr⟩
theorem Near.symm (hu : u.length = n) (hv : v.length = n) (h : Near n L u v) : Near n L v u := by
  obtain ⟨a, b, ha, hb, g⟩ := h
  refine ⟨b, a, hb, ha, ?_⟩
  have := g.neg_span
  have e : neg (comb a u (-b) v) = comb b v (-a) u := by
    refine ext_dot (by simp [hu, hv]) fun q _ => ?_
    rw [dot_neg, dot_comb _ _ _ (by simp [hu, hv]), dot_comb _ _ _ (by simp [hu, hv])]
    grind
  rw [← e]; exact this
theorem near_primitive (hu : u.length = n) : Near n L (primitive u) u := by
  obtain ⟨g, hg, e⟩ := primitive_spec u
  refine ⟨g, 1, hg, by decide, ?_⟩
  have : comb g (primitive u) (-1) u = zeros n := by
    refine ext_dot (by simp [hu, primitive_length]) fun w _ => ?_
    rw [dot_comb _ _ _ (by simp [hu, primitive_length]), dot_zeros]
    have := congrArg (dot w) e
    rw [dot_smul] at this
    rw [this]; grind
  rw [this]; exact .zero
/-- clearing stays near, and the column is 0 -/
theorem clr_near {row : Vec} {c : Nat} (hv : v.length = n) (hr : row.length = n) (hc : c < n) (pos : 0 < col row c) :
    (clr v row c).length = n ∧ col (clr v row c) c = 0 ∧ Near n [row] (clr v row c) v ∧ ∃ g a b : Int, 0 < g ∧ 0 < a ∧ (∀ q, g * dot q (clr v row c) = a * dot q v + b * dot q row) ∧ (col v c = 0 → b = 0) := by
  unfold clr
  by_cases h : col v c = 0
  · rw [if_pos h]
    exact ⟨hv, h, .refl hv, 1, 1, 0, by decide, by decide, fun q => by grind, fun _ => rfl⟩
  · rw [if_neg h]
    have hl : (comb (col row c) v (-col v c) row).length = n := comb_len hv hr
    obtain ⟨g, hg, e⟩ := primitive_spec (comb (col row c) v (-col v c) row)
    have d : ∀ q, g * dot q (primitive (comb (col row c) v (-col v c) row)) = col row c * dot q v + -col v c * dot q row := fun q => by
      have := congrArg (dot q) e
      rw [dot_smul, dot_comb _ _ _ (hv.trans hr.symm)] at this
      exact this.symm
    have hl2 : (primitive (comb (col row c) v (-col v c) row)).length = n := by rw [primitive_length]; exact hl
    refine ⟨hl2, ?_, ?_, g, col row c, -col v c, hg, pos, d, fun k => absurd k h⟩
    · have := d (unit n c)
      rw [col_unit hl2 hc, col_unit hv hc, col_unit hr hc] at this
      exact pos_of_mul hg (by rw [this]; grind)
    · refine ⟨g, col row c, hg, pos, ?_⟩
      have e2 : comb g (primitive (comb (col row c) v (-col v c) row)) (-col row c) v = smul (-col v c) row := by
        refine ext_dot (by simp [hl2, hv, hr]) fun q _ => ?_
        rw [dot_comb _ _ _ (hl2.trans hv.symm), d q, dot_smul]
        grind
      rw [e2]
      exact Gen.span_smul (.line (by simp))

/-- rows in echelon form, in any order -/
structure Ech (n : Nat) (F : List Vec) : Prop where
  len : ∀ k ∈ F, k.length = n
  piv : ∀ k ∈ F, pivotOf k = some (pv k)
  pos : ∀ k ∈ F, 0 < col k (pv k)
  prim : ∀ k ∈ F, gcdL k = 1
  off : F.Pairwise fun a b => col a (pv b) = 0 ∧ col b (pv a) = 0
theorem Ech.lt {F : List Vec} (h : Ech n F) {k : Vec} (hk : k ∈ F) : pv k < n := by
  have := (pivotOf_some (h.piv k hk)).1
  rw [h.len k hk] at this
  exact this
theorem Ech.tail {F : List Vec} {k : Vec} (h : Ech n (k :: F)) : Ech n F where
  len := fun x hx => h.len x (by simp [hx])
  piv := fun x hx => h.piv x (by simp [hx])
  pos := fun x hx => h.pos x (by simp [hx])
  prim := fun x hx => h.prim x (by simp [hx])
  off := (List.pairwise_cons.mp h.off).2
theorem Ech.offv {F : List Vec} (h : Ech n F) {a b : Vec} (ha : a ∈ F) (hb : b ∈ F) (ne : a ≠ b) : col a (pv b) = 0 :=
  (pairwise_ne (D := fun a b => col a (pv b) = 0 ∧ col b (pv a) = 0) (fun _ _ q => ⟨q.2, q.1⟩) h.off a ha b hb ne).1
theorem Ech.pv_inj {F : List Vec} (h : Ech n F) {a b : Vec} (ha : a ∈ F) (hb : b ∈ F) (e : pv a = pv b) : a = b := by
  refine Classical.byContradiction fun ne => ?_
  have := h.offv ha hb ne
  rw [← e] at this
  have := h.pos a ha
  omega
/-- clearing by rows: all pivots 0 -/
theorem clears_spec : ∀ {F : List Vec} {v : Vec}, Ech n F → v.length = n → (clears v F).length = n ∧ (∀ k ∈ F, col (clears v F) (pv k) = 0) ∧ Near n F (clears v F) v ∧ (∀ c, c < n → (∀ k ∈ F, col k c = 0) → col v c = 0 → col (clears v F) c = 0) ∧ (gcdL v ≤ 1 → gcdL (clears v F) ≤ 1)
  | [], v, _, hv => ⟨hv, fun _ h => (nomatch h), .refl hv, fun _ _ _ h => h, fun h => h⟩
  | k :: F, v, h, hv => by
    have hk : k ∈ k :: F := by simp
    obtain ⟨h1, h2, h3, g, a, b, hg, ha, hd, _⟩ := clr_near (v := v) hv (h.len k hk) (h.lt hk) (h.pos k hk)
    obtain ⟨k1, k2, k3, k4, k5⟩ := clears_spec (F := F) (v := clr v k (pv k)) h.tail h1
    refine ⟨k1, ?_, ?_, ?_, ?_⟩
    · intro x hx
      rcases List.mem_cons.mp hx with rfl | hx
      · exact k4 (pv x) (h.lt hk) (fun y hy => ((List.pairwise_cons.mp h.off).1 y hy).2) h2
      · exact k2 x hx
    · exact Near.trans k1 h1 hv (k3.mono fun l hl => by simp [hl]) (h3.mono fun l hl => by
        rw [List.mem_singleton] at hl; simp [hl])
    · intro c hc z zv
      refine k4 c hc (fun y hy => z y (by simp [hy])) ?_
      have := hd (unit n c)
      rw [col_unit h1 hc, col_unit hv hc, col_unit (h.len k hk) hc, zv, z k hk] at this
      exact pos_of_mul hg (by rw [this]; grind)
    · intro gv
      refine k5 ?_
      unfold clr
      split
      · exact gv
      · exact primitive_le _
theorem gen_cons {k : Vec} {F : List Vec} (hF : Lens n F) (hk : k.length = n) (h : Gen n (k :: F) [] v) : ∃ a b : Int, 0 < a ∧ Gen n F [] (comb a v (-b) k) := by
  have hl : Lens n (k :: F) := fun x hx => by
    rcases List.mem_cons.mp hx with rfl | hx
    · exact hk
    · exact hF x hx
  have small : ∀ l, Gen n F [] l → l.length = n → ∃ a b : Int, 0 < a ∧ Gen n F [] (comb a l (-b) k) := fun l hl' e => ⟨1, 0, by decide, by
    have : comb 1 l (-0) k = l := by
      refine ext_dot (by rw [comb_len e hk, e]) fun w _ => ?_
      rw [dot_comb _ _ _ (e.trans hk.symm)]; grind
    rw [this]; exact hl'⟩
  have selfz : ∀ s : Int, comb 1 (smul s k) (-s) k = zeros n := fun s => by
    refine ext_dot (by simp [hk]) fun w _ => ?_
    rw [dot_comb _ _ _ (by simp), dot_smul, dot_zeros]; grind
  induction h with
  | zero => exact small _ .zero (by simp)
  | line h =>
    rcases List.mem_cons.mp h with rfl | h
    · refine ⟨1, 1, by decide, ?_⟩
      have := selfz 1
      rw [smul_one] at this
      rw [this]; exact .zero
    · exact small _ (.line h) (hF _ h)
  | nline h =>
    rcases List.mem_cons.mp h with rfl | h
    · refine ⟨1, -1, by decide, ?_⟩
      have := selfz (-1)
      rw [← neg_smul] at this
      rw [this]; exact .zero
    · exact small _ (.nline h) (by rw [neg_length]; exact hF _ h)
  | ray h => nomatch h
  | @comb u v a b ha hb hu hv i j =>
    obtain ⟨k1, a1, hk1, g1⟩ := i
    obtain ⟨k2, a2, hk2, g2⟩ := j
    have lu := hu.len hl (R := []) (fun x hx => nomatch hx)
    have lv := hv.len hl (R := []) (fun x hx => nomatch hx)
    refine ⟨k1 * k2, a * k2 * a1 + b * k1 * a2, Int.mul_pos hk1 hk2, ?_⟩
    have := Gen.comb (a := a * k2) (b := b * k1) (Int.mul_nonneg ha (Int.le_of_lt hk2)) (Int.mul_nonneg hb (Int.le_of_lt hk1)) g1 g2
    have e : FM.comb (a * k2) (FM.comb k1 u (-a1) k) (b * k1) (FM.comb k2 v (-a2) k) = FM.comb (k1 * k2) (FM.comb a u b v) (-(a * k2 * a1 + b * k1 * a2)) k := by
      refine ext_dot (by simp [lu, lv, hk]) fun w _ => ?_
      rw [dot_comb _ _ _ (by simp [lu, lv, hk]), dot_comb _ _ _ (by simp [lu, lv, hk]), dot_comb _ _ _ (by simp [lu, lv, hk]), dot_comb _ _ _ (by simp [lu, lv, hk]), dot_comb _ _ _ (by simp [lu, lv, hk])]
      grind
    rw [← e]; exact this
  | @div c v hc hv h i =>
    obtain ⟨k1, a1, hk1, g1⟩ := i
    refine ⟨k1 * c, a1, Int.mul_pos hk1 hc, ?_⟩
    have e : FM.comb k1 (FM.smul c v) (-a1) k = FM.comb (k1 * c) v (-a1) k := by
      refine ext_dot (by simp [hv, hk]) fun w _ => ?_
      rw [dot_comb _ _ _ (by simp [hv, hk]), dot_comb _ _ _ (by simp [hv, hk]), dot_smul]
      grind
    rw [← e]; exact g1
theorem smul_gen {a : Int} {R : List Vec} (hv : v.length = n) (ha : 0 < a) (h : Gen n L R (smul a v)) : Gen n L R v := .div ha hv h
/-- a vector of the span is in the span of the rows at whose pivots it is not 0 -/
theorem Ech.sup : ∀ {F : List Vec} {v : Vec}, Ech n F → Gen n F [] v → v.length = n → Gen n (F.filter fun k => col v (pv k) != 0) [] v
  | [], v, _, g, _ => by simpa using g
  | k :: F, v, h, g, hv => by
    have hk : k ∈ k :: F := by simp
    have lk := h.len k hk
    obtain ⟨a, b, ha, g2⟩ := gen_cons (fun x hx => h.len x (by simp [hx])) lk g
    have lw : (comb a v (-b) k).length = n := comb_len hv lk
    have ih := Ech.sup (F := F) h.tail g2 lw
    -- at k's pivot
    have zk : ∀ y ∈ F, col y (pv k) = 0 := fun y hy => ((List.pairwise_cons.mp h.off).1 y hy).2
    have zy : ∀ y ∈ F, col k (pv y) = 0 := fun y hy => ((List.pairwise_cons.mp h.off).1 y hy).1
    have at_k : a * col v (pv k) = b * col k (pv k) := by
      have := g2.dot_zero (c := unit n (pv k)) (R := []) (fun x hx => h.len x (by simp [hx])) (fun x hx => nomatch hx) (fun l hl => by rw [col_unit (h.len l (by simp [hl])) (h.lt hk)]; exact zk l hl) (fun x hx => nomatch hx)
      rw [col_unit lw (h.lt hk), col_comb hv lk (h.lt hk)] at this
      grind
    have same : (F.filter fun y => col (comb a v (-b) k) (pv y) != 0) = F.filter fun y => col v (pv y) != 0 := by
      refine List.filter_congr fun y hy => ?_
      rw [col_comb hv lk (h.lt (k := y) (by simp [hy])), zy y hy]
      have : a * col v (pv y) + -b * 0 = a * col v (pv y) := by grind
      rw [this]
      by_cases hz : col v (pv y) = 0
      · rw [hz]; simp
      · have : a * col v (pv y) ≠ 0 := fun q => hz (pos_of_mul ha q)
        rw [bne_iff_ne.mpr hz, bne_iff_ne.mpr this]
    rw [same] at ih
    have back : smul a v = comb 1 (comb a v (-b) k) b k := by
      refine ext_dot (by simp [hv, lk]) fun w _ => ?_
      rw [dot_smul, dot_comb _ _ _ (by simp [hv, lk]), dot_comb _ _ _ (by simp [hv, lk])]; grind
    by_cases hz : col v (pv k) = 0
    · have hb : b = 0 := by
        rw [hz] at at_k
        have : b * col k (pv k) = 0 := by rw [← at_k]; simp
        rw [Int.mul_comm] at this
        exact pos_of_mul (h.pos k hk) this
      have e : (k :: F).filter (fun k => col v (pv k) != 0) = F.filter fun y => col v (pv y) != 0 := by
        rw [List.filter_cons, if_neg (by simp [hz])]
      rw [e]
      refine .div ha hv ?_
      rw [back, hb]
      rw [hb] at ih
      have e3 : comb 1 (comb a v (-0) k) 0 k = comb a v (-0) k := by
        refine ext_dot (by simp [hv, lk]) fun w _ => ?_
        rw [dot_comb _ _ _ (by simp [hv, lk])]; grind
      rw [e3]; exact ih
    · have e : (k :: F).filter (fun k => col v (pv k) != 0) = k :: F.filter fun y => col v (pv y) != 0 := by
        rw [List.filter_cons, if_pos (by simpa using hz)]
      rw [e]
      refine .div ha hv ?_
      rw [back]
      exact (ih.mono (R' := []) (fun l hl => ⟨.line (by simp [List.mem_filter.mp hl]), .nline (by simp [List.mem_filter.mp hl])⟩) fun r hr => nomatch hr).span_comb (.line (by simp))
/-- 0 at all pivots: 0 -/
theorem Ech.zero {F : List Vec} (h : Ech n F) (g : Gen n F [] v) (hv : v.length = n) (z : ∀ k ∈ F, col v (pv k) = 0) : v = zeros n := by
  have := h.sup g hv
  have e : (F.filter fun k => col v (pv k) != 0) = [] := by
    rw [List.filter_eq_nil_iff]
    intro k hk
    rw [z k hk]; simp
  rw [e] at this
  have := this.dot_zero (c := v) (L := []) (R := []) (fun x hx => nomatch hx) (fun x hx => nomatch hx) (fun x hx => nomatch hx) (fun x hx => nomatch hx)
  rw [zero_of_dot_self v this, hv]
end FM
end
section
set_option linter.all false
/-! echelon is in echelon form, spans the same, and is the only one; dual and its one form. -/
namespace FM
variable {n : Nat} {L : List Vec} {u v w : Vec}
theorem near_gen {F : List Vec} (hu : u.length = n) (hv : v.length = n) (h : Near n F u v) : Gen n F [] u ↔ Gen n F [] v := by
  have one : ∀ {u v : Vec}, u.length = n → v.length = n → Near n F u v → Gen n F [] v → Gen n F [] u := fun {u v} hu hv ⟨a, b, ha, hb, g⟩ k => by
    refine .div ha hu ?_
    have e : smul a u = comb 1 (comb a u (-b) v) b v := by
      refine ext_dot (by simp [hu, hv]) fun w _ => ?_
      rw [dot_smul, dot_comb _ _ _ (by simp [hu, hv]), dot_comb _ _ _ (by simp [hu, hv])]; grind
    rw [e]; exact g.span_comb k
  exact ⟨one hv hu (h.symm hu hv), one hu hv h⟩
theorem signed_spec {c : Nat} (hv : v.length = n) (hc : c < n) (h : col v c ≠ 0) : (signed v c).length = n ∧ 0 < col (signed v c) c ∧ (signed v c = v ∨ signed v c = neg v) := by
  unfold signed
  split
  · rw [col_neg hv hc]
    exact ⟨by simpa using hv, by omega, .inr rfl⟩
  · exact ⟨hv, by omega, .inl rfl⟩
theorem dot_pm {s v q : Vec} (h : s = v ∨ s = neg v) (z : dot q v = 0) : dot q s = 0 := by
  rcases h with rfl | rfl
  · exact z
  · rw [dot_neg, z]; rfl
theorem col_pm {s v : Vec} {c : Nat} (hv : v.length = n) (hc : c < n) (h : s = v ∨ s = neg v) (z : col v c = 0) : col s c = 0 := by
  rcases h with rfl | rfl
  · exact z
  · rw [col_neg hv hc, z]; rfl
theorem col_prim {c : Nat} (hv : v.length = n) (hc : c < n) : col (primitive v) c = 0 ↔ col v c = 0 := by
  obtain ⟨g, hg, e⟩ := primitive_spec v
  have hp : (primitive v).length = n := by rw [primitive_length]; exact hv
  have : col v c = g * col (primitive v) c := by
    conv => lhs; rw [e]
    exact col_smul hp hc
  constructor
  · intro z; rw [this, z]; simp
  · intro z; rw [z] at this; exact pos_of_mul hg this.symm
/-- one row more -/
theorem echStep_spec {F : List Vec} {row : Vec} (h : Ech n F) (hr : row.length = n) : Ech n (echStep F row) ∧ ∀ v, Gen n (echStep F row) [] v ↔ Gen n (F ++ [row]) [] v := by
  obtain ⟨k1, k2, k3, _, _⟩ := clears_spec h hr
  have sub : ∀ v, Gen n F [] v → Gen n (F ++ [row]) [] v := fun v g => g.mono (R' := []) (fun l hl => ⟨.line (by simp [hl]), .nline (by simp [hl])⟩) fun r hr => nomatch hr
  unfold echStep
  split
  · rename_i e
    refine ⟨h, fun v => ⟨sub v, fun g => ?_⟩⟩
    have rz : Gen n F [] row := (near_gen k1 hr k3).mp (by rw [pivotOf_none e, k1]; exact .zero)
    refine g.mono (R' := []) (fun l hl => ?_) fun r hr => nomatch hr
    rcases List.mem_append.mp hl with hl | hl
    · exact ⟨.line hl, .nline hl⟩
    · rw [List.mem_singleton] at hl; rw [hl]; exact ⟨rz, rz.neg_span⟩
  · rename_i c e
    obtain ⟨c1, c2, c3⟩ := pivotOf_some e
    rw [k1] at c1 c3
    have hp : (primitive (clears row F)).length = n := by rw [primitive_length]; exact k1
    have cp : col (primitive (clears row F)) c ≠ 0 := fun z => c2 ((col_prim k1 c1).mp z)
    obtain ⟨s1, s2, s3⟩ := signed_spec hp c1 cp
    generalize hs : signed (primitive (clears row F)) c = r at s1 s2 s3
    -- r: its columns are 0 where the rest's are
    have rz : ∀ q, q < n → col (clears row F) q = 0 → col r q = 0 := fun q hq z => col_pm hp hq s3 ((col_prim k1 hq).mpr z)
    have rpiv : pivotOf r = some c := by
      refine pivotOf_of (by rw [s1]; exact c1) (by omega) fun q hq ho => ?_
      rw [s1] at hq ho
      exact rz q hq (c3 q hq ho)
    have rpv : pv r = c := by unfold pv; rw [rpiv]; rfl
    have rk : ∀ k ∈ F, col r (pv k) = 0 := fun k hk => rz _ (h.lt hk) (k2 k hk)
    have rgcd : gcdL r = 1 := by
      refine gcd_one (p := unit n c) ?_ (by rw [col_unit s1 c1]; omega)
      rcases s3 with q | q
      · rw [q]; exact primitive_le _
      · rw [q, gcdL_neg]; exact primitive_le _
    -- the cleared rows
    have ck : ∀ k ∈ F, (clr k r c).length = n ∧ col (clr k r c) c = 0 ∧ pivotOf (clr k r c) = some (pv k) ∧ 0 < col (clr k r c) (pv k) ∧ gcdL (clr k r c) = 1 ∧ (∀ j ∈ F, col k (pv j) = 0 → col (clr k r c) (pv j) = 0) ∧ Near n [r] (clr k r c) k := fun k hk => by
      obtain ⟨q1, q2, q3, g, a, b, hg, ha, hd, hb⟩ := clr_near (v := k) (h.len k hk) s1 c1 s2
      have cd : ∀ q, q < n → g * col (clr k r c) q = a * col k q + b * col r q := fun q hq => by
        have := hd (unit n q)
        rwa [col_unit q1 hq, col_unit (h.len k hk) hq, col_unit s1 hq] at this
      have own : 0 < col (clr k r c) (pv k) := by
        have := cd (pv k) (h.lt hk)
        rw [rk k hk] at this
        have h2 : 0 < a * col k (pv k) := Int.mul_pos ha (h.pos k hk)
        exact Int.pos_of_mul_pos_right (a := g) (by rw [this]; simpa using h2) hg
      refine ⟨q1, q2, ?_, own, ?_, fun j hj z => ?_, q3⟩
      · refine pivotOf_of (by rw [q1]; exact h.lt hk) (by omega) fun q hq ho => ?_
        rw [q1] at hq ho
        have kz : col k q = 0 := by
          have := (pivotOf_some (h.piv k hk)).2.2 q (by rw [h.len k hk]; exact hq)
          rw [h.len k hk] at this
          exact this ho
        have := cd q hq
        rw [kz] at this
        by_cases hkc : col k c = 0
        · rw [hb hkc] at this
          exact pos_of_mul hg (by rw [this]; grind)
        · -- c lies behind k's pivot
          have ne : c ≠ pv k := fun e => by
            have := rk k hk
            rw [← e] at this
            omega
          have hord : ord n (pv k) < ord n c := by
            have h1 : ¬ ord n c < ord n (pv k) := fun lt => hkc (by
              have := (pivotOf_some (h.piv k hk)).2.2 c (by rw [h.len k hk]; exact c1)
              rw [h.len k hk] at this
              exact this lt)
            have h2 : ord n c ≠ ord n (pv k) := fun e => ne (ord_inj c1 (h.lt hk) e)
            omega
          have rq : col r q = 0 := rz q hq (c3 q hq (by omega))
          rw [rq] at this
          exact pos_of_mul hg (by rw [this]; grind)
      · refine gcd_one (p := unit n (pv k)) ?_ (by rw [col_unit q1 (h.lt hk)]; omega)
        unfold clr
        split
        · rw [h.prim k hk]; omega
        · exact primitive_le _
      · have := cd (pv j) (h.lt hj)
        rw [z, rk j hj] at this
        exact pos_of_mul hg (by rw [this]; grind)
    have pvk : ∀ k ∈ F, pv (clr k r c) = pv k := fun k hk => by
      have := (ck k hk).2.2.1
      unfold pv at this ⊢
      rw [this]; rfl
    constructor
    · refine ⟨?_, ?_, ?_, ?_, ?_⟩
      · intro x hx
        rcases List.mem_append.mp hx with hx | hx
        · obtain ⟨k, hk, rfl⟩ := List.mem_map.mp hx
          exact (ck k hk).1
        · rw [List.mem_singleton] at hx; rw [hx]; exact s1
      · intro x hx
        rcases List.mem_append.mp hx with hx | hx
        · obtain ⟨k, hk, rfl⟩ := List.mem_map.mp hx
          rw [pvk k hk]; exact (ck k hk).2.2.1
        · rw [List.mem_singleton] at hx; rw [hx, rpv]; exact rpiv
      · intro x hx
        rcases List.mem_append.mp hx with hx | hx
        · obtain ⟨k, hk, rfl⟩ := List.mem_map.mp hx
          rw [pvk k hk]; exact (ck k hk).2.2.2.1
        · rw [List.mem_singleton] at hx; rw [hx, rpv]; exact s2
      · intro x hx
        rcases List.mem_append.mp hx with hx | hx
        · obtain ⟨k, hk, rfl⟩ := List.mem_map.mp hx
          exact (ck k hk).2.2.2.2.1
        · rw [List.mem_singleton] at hx; rw [hx]; exact rgcd
      · rw [List.pairwise_append, List.pairwise_map]
        refine ⟨?_, by simp, ?_⟩
        · refine (List.Pairwise.and_mem.mp h.off).imp ?_
          rintro a b ⟨ha, hb, z1, z2⟩
          rw [pvk a ha, pvk b hb]
          exact ⟨(ck a ha).2.2.2.2.2.1 b hb z1, (ck b hb).2.2.2.2.2.1 a ha z2⟩
        · intro x hx y hy
          obtain ⟨k, hk, rfl⟩ := List.mem_map.mp hx
          rw [List.mem_singleton] at hy
          rw [hy, rpv, pvk k hk]
          exact ⟨(ck k hk).2.1, rk k hk⟩
    · intro v
      have near_r : Near n F r row ∨ Near n F (neg r) row := by
        have := Near.trans hp k1 hr (near_primitive k1) k3
        rcases s3 with q | q
        · rw [q]; exact .inl this
        · rw [q, neg_neg]; exact .inr this
      have rspan : Gen n (F ++ [row]) [] r := by
        have gr : Gen n (F ++ [row]) [] row := .line (by simp)
        rcases near_r with q | q
        · exact (near_gen s1 hr (q.mono fun l hl => by simp [hl])).mpr gr
        · have := (near_gen (by simpa using s1) hr (q.mono (L' := F ++ [row]) fun l hl => by simp [hl])).mpr gr
          have := this.neg_span
          rwa [neg_neg] at this
      constructor
      · intro g
        have one : ∀ l ∈ F.map (fun k => clr k r c) ++ [r], Gen n (F ++ [row]) [] l := fun l hl => by
          rcases List.mem_append.mp hl with hl | hl
          · obtain ⟨k, hk, rfl⟩ := List.mem_map.mp hl
            obtain ⟨a, b, ha, hb, g3⟩ := (ck k hk).2.2.2.2.2.2
            have : Near n (F ++ [row, r]) (clr k r c) k := ⟨a, b, ha, hb, g3.mono (R' := []) (fun l hl => by
              rw [List.mem_singleton] at hl; exact ⟨.line (by simp [hl]), .nline (by simp [hl])⟩) fun r hr => nomatch hr⟩
            have g4 := (near_gen (ck k hk).1 (h.len k hk) this).mpr (.line (by simp [hk]))
            refine g4.mono (R' := []) (fun l hl => ?_) fun r hr => nomatch hr
            simp only [List.mem_append, List.mem_cons, List.not_mem_nil, or_false] at hl
            rcases hl with hl | hl | hl
            · exact ⟨.line (by simp [hl]), .nline (by simp [hl])⟩
            · exact ⟨.line (by simp [hl]), .nline (by simp [hl])⟩
            · rw [hl]; exact ⟨rspan, rspan.neg_span⟩
          · rw [List.mem_singleton] at hl; rw [hl]; exact rspan
        exact g.mono (R' := []) (fun l hl => ⟨one l hl, (one l hl).neg_span⟩) fun r hr => nomatch hr
      · intro g
        have gF : ∀ k ∈ F, Gen n (F.map (fun k => clr k r c) ++ [r]) [] k := fun k hk => by
          obtain ⟨a, b, ha, hb, g3⟩ := (ck k hk).2.2.2.2.2.2
          have : Near n (F.map (fun k => clr k r c) ++ [r]) (clr k r c) k := ⟨a, b, ha, hb, g3.mono (R' := []) (fun l hl => by
            rw [List.mem_singleton] at hl; exact ⟨.line (by simp [hl]), .nline (by simp [hl])⟩) fun r hr => nomatch hr⟩
          exact (near_gen (ck k hk).1 (h.len k hk) this).mp (.line (by simp; exact .inl ⟨k, hk, rfl⟩))
        have gr : Gen n (F.map (fun k => clr k r c) ++ [r]) [] row := by
          have lift : ∀ {a : Vec}, Near n F a row → Near n (F.map (fun k => clr k r c) ++ [r]) a row := fun ⟨a, b, ha, hb, g3⟩ => ⟨a, b, ha, hb, g3.mono (R' := []) (fun l hl => ⟨gF l hl, (gF l hl).neg_span⟩) fun r hr => nomatch hr⟩
          rcases near_r with q | q
          · exact (near_gen s1 hr (lift q)).mp (.line (by simp))
          · exact (near_gen (by simpa using s1) hr (lift q)).mp (Gen.nline (by simp))
        refine g.mono (R' := []) (fun l hl => ?_) fun r hr => nomatch hr
        rcases List.mem_append.mp hl with hl | hl
        · exact ⟨gF l hl, (gF l hl).neg_span⟩
        · rw [List.mem_singleton] at hl; rw [hl]; exact ⟨gr, gr.neg_span⟩
theorem echRaw_aux : ∀ {rows F F0 : List Vec}, Ech n F → (∀ v, Gen n F [] v ↔ Gen n F0 [] v) → Lens n rows → Ech n (rows.foldl echStep F) ∧ ∀ v, Gen n (rows.foldl echStep F) [] v ↔ Gen n (F0 ++ rows) [] v
  | [], F, F0, h, hs, _ => by rw [List.append_nil]; exact ⟨h, hs⟩
  | r :: rows, F, F0, h, hs, hl => by
    obtain ⟨h1, h2⟩ := echStep_spec h (hl r (by simp))
    have := echRaw_aux (rows := rows) (F := echStep F r) (F0 := F0 ++ [r]) h1 (fun v => by
      rw [h2]
      have lift : ∀ {A B : List Vec}, (∀ v, Gen n A [] v → Gen n B [] v) → ∀ v, Gen n (A ++ [r]) [] v → Gen n (B ++ [r]) [] v := fun {A B} k v g =>
        g.mono (R' := []) (fun l hl => by
          rcases List.mem_append.mp hl with hl | hl
          · have := (k l (.line hl)).mono (L' := B ++ [r]) (R' := []) (fun x hx => ⟨.line (by simp [hx]), .nline (by simp [hx])⟩) fun r hr => nomatch hr
            exact ⟨this, this.neg_span⟩
          · exact ⟨.line (by rw [List.mem_append]; exact .inr hl), .nline (by rw [List.mem_append]; exact .inr hl)⟩) fun r hr => nomatch hr
      exact ⟨lift (fun v => (hs v).mp) v, lift (fun v => (hs v).mpr) v⟩) fun x hx => hl x (by simp [hx])
    rw [List.append_assoc] at this
    exact this
theorem echRaw_spec {rows : List Vec} (hl : Lens n rows) : Ech n (echRaw rows) ∧ ∀ v, Gen n (echRaw rows) [] v ↔ Gen n rows [] v :=
  echRaw_aux (rows := rows) (F := []) (F0 := []) ⟨(fun _ h => nomatch h), (fun _ h => nomatch h), (fun _ h => nomatch h), (fun _ h => nomatch h), List.Pairwise.nil⟩ (fun _ => Iff.rfl) hl

/-! ### sorted by the pivots -/
theorem keyOf_ord {F : List Vec} (h : Ech n F) {k : Vec} (hk : k ∈ F) : keyOf n k = (ord n (pv k) : Nat) := by
  have := h.lt hk
  unfold keyOf ord
  split
  · rename_i e
    rw [e]
    have : ((0 : Nat) : Int) - 1 = -1 := by omega
    rw [this, Int.emod_eq_of_lt_neg_one n (by omega)]
  · rw [Int.emod_eq_of_lt (by omega) (by omega)]; omega
where
  Int.emod_eq_of_lt_neg_one (n : Nat) (h : 0 < n) : (-1 : Int) % (n : Int) = ((n - 1 : Nat) : Int) := by
    have : (-1 : Int) = ((n - 1 : Nat) : Int) + (n : Int) * (-1) := by omega
    rw [this, Int.add_mul_emod_self_left, Int.emod_eq_of_lt (by omega) (by omega)]
/-- two lists in rising order of the same items are one -/
theorem sorted_unique {α : Type} {lt : α → α → Prop} (irr : ∀ a, ¬ lt a a) (asym : ∀ a b, lt a b → lt b a → False) : ∀ {l m : List α}, l.Pairwise lt → m.Pairwise lt → (∀ x, x ∈ l ↔ x ∈ m) → l = m
  | [], [], _, _, _ => rfl
  | [], y :: m, _, _, h => by have := (h y).mpr (by simp); simp at this
  | x :: l, [], _, _, h => by have := (h x).mp (by simp); simp at this
  | x :: l, y :: m, hl, hm, h => by
    rw [List.pairwise_cons] at hl hm
    have e : x = y := by
      rcases List.mem_cons.mp ((h x).mp (by simp)) with e | e
      · exact e
      · rcases List.mem_cons.mp ((h y).mpr (by simp)) with e2 | e2
        · exact e2.symm
        · exact (asym _ _ (hm.1 x e) (hl.1 y e2)).elim
    subst e
    rw [sorted_unique irr asym hl.2 hm.2 fun z => ?_]
    constructor
    · intro hz
      rcases List.mem_cons.mp ((h z).mp (by simp [hz])) with e | e
      · subst e; exact absurd (hl.1 _ hz) (irr _)
      · exact e
    · intro hz
      rcases List.mem_cons.mp ((h z).mpr (by simp [hz])) with e | e
      · subst e; exact absurd (hm.1 _ hz) (irr _)
      · exact e
theorem Ech.perm {F G : List Vec} (h : Ech n F) (p : F.Perm G) : Ech n G where
  len := fun k hk => h.len k (p.mem_iff.mpr hk)
  piv := fun k hk => h.piv k (p.mem_iff.mpr hk)
  pos := fun k hk => h.pos k (p.mem_iff.mpr hk)
  prim := fun k hk => h.prim k (p.mem_iff.mpr hk)
  off := p.pairwise h.off fun {a b} q => ⟨q.2, q.1⟩
/-- rising by pivots -/
def Rise (n : Nat) (F : List Vec) : Prop := F.Pairwise fun a b => ord n (pv a) < ord n (pv b)
theorem echelon_spec {rows : List Vec} (hl : Lens n rows) : Ech n (echelon n rows) ∧ Rise n (echelon n rows) ∧ ∀ v, Gen n (echelon n rows) [] v ↔ Gen n rows [] v := by
  obtain ⟨h1, h2⟩ := echRaw_spec hl
  have p : (echRaw rows).Perm (echelon n rows) := (List.mergeSort_perm _ _).symm
  have h3 := h1.perm p
  refine ⟨h3, ?_, fun v => ?_⟩
  · have s : (echelon n rows).Pairwise fun a b => decide (keyOf n a ≤ keyOf n b) = true := List.pairwise_mergeSort (fun a b c h1 h2 => by simp only [decide_eq_true_eq] at *; omega) (fun a b => by simp only [Bool.or_eq_true, decide_eq_true_eq]; omega) _
    refine (List.Pairwise.and_mem.mp (s.and h3.off)).imp ?_
    rintro a b ⟨ha, hb, hle, z1, z2⟩
    rw [decide_eq_true_eq, keyOf_ord h3 ha, keyOf_ord h3 hb] at hle
    have ne : ord n (pv a) ≠ ord n (pv b) := fun e => by
      have := ord_inj (h3.lt ha) (h3.lt hb) e
      rw [← this] at z1
      have := h3.pos a ha
      omega
    omega
  · rw [← h2]
    have lift : ∀ {A B : List Vec}, A.Perm B → ∀ v, Gen n A [] v → Gen n B [] v := fun {A B} q v g => g.mono (R' := []) (fun l hl => ⟨.line (q.mem_iff.mp hl), .nline (q.mem_iff.mp hl)⟩) fun r hr => nomatch hr
    exact ⟨lift p.symm v, lift p v⟩
/-- the first column of a vector of the span is a pivot -/
theorem Ech.first {F : List Vec} (h : Ech n F) (g : Gen n F [] v) (hv : v.length = n) {p : Nat} (hp : pivotOf v = some p) : ∃ k ∈ F, pv k = p := by
  refine Classical.byContradiction fun no => ?_
  obtain ⟨p1, p2, p3⟩ := pivotOf_some hp
  rw [hv] at p1 p3
  have s := h.sup g hv
  have := s.dot_zero (c := unit n p) (R := []) (fun x hx => h.len x (List.mem_filter.mp hx).1) (fun x hx => nomatch hx) (fun k hk => by
    obtain ⟨hkF, hkn⟩ := List.mem_filter.mp hk
    have nz : col v (pv k) ≠ 0 := by simpa using hkn
    rw [col_unit (h.len k hkF) p1]
    have ne : pv k ≠ p := fun e => no ⟨k, hkF, e⟩
    have o1 : ¬ ord n (pv k) < ord n p := fun lt => nz (p3 _ (h.lt hkF) lt)
    have o2 : ord n (pv k) ≠ ord n p := fun e => ne (ord_inj (h.lt hkF) p1 e)
    have := (pivotOf_some (h.piv k hkF)).2.2 p (by rw [h.len k hkF]; exact p1)
    rw [h.len k hkF] at this
    exact this (by omega)) (fun x hx => nomatch hx)
  rw [col_unit hv p1] at this
  exact p2 this
theorem Ech.sub {F G : List Vec} (h : Ech n F) (k : Ech n G) (e : ∀ v, Gen n F [] v ↔ Gen n G [] v) : ∀ x ∈ F, x ∈ G := fun x hx => by
  have gx : Gen n G [] x := (e x).mp (.line hx)
  have lx := h.len x hx
  obtain ⟨g, hg, pg⟩ := k.first gx lx (h.piv x hx)
  have others : ∀ y ∈ G, y ≠ g → col x (pv y) = 0 := fun y hy ne => by
    obtain ⟨z, hz, pz⟩ := h.first ((e y).mpr (.line hy)) (k.len y hy) (k.piv y hy)
    have zx : x ≠ z := fun q => by
      rw [← q, ← pg] at pz
      exact ne (k.pv_inj hy hg pz.symm)
    rw [← pz]
    exact h.offv hx hz zx
  have s := k.sup gx lx
  have s2 : Gen n [g] [] x := s.mono (R' := []) (fun l hl => by
    obtain ⟨h1, h2⟩ := List.mem_filter.mp hl
    have : l = g := Classical.byContradiction fun ne => by
      rw [others l h1 ne] at h2
      simp at h2
    rw [this]
    exact ⟨.line (by simp), .nline (by simp)⟩) fun r hr => nomatch hr
  obtain ⟨a, b, ha, g3⟩ := gen_cons (F := []) (fun x hx => nomatch hx) (k.len g hg) s2
  have z : comb a x (-b) g = zeros n := by
    have := g3.dot_zero (c := comb a x (-b) g) (L := []) (R := []) (fun x hx => nomatch hx) (fun x hx => nomatch hx) (fun x hx => nomatch hx) (fun x hx => nomatch hx)
    rw [zero_of_dot_self _ this, comb_len lx (k.len g hg)]
  have eq : smul a x = smul b g := by
    refine ext_dot (by simp [lx, k.len g hg]) fun w _ => ?_
    have := congrArg (dot w) z
    rw [dot_comb _ _ _ (lx.trans (k.len g hg).symm), dot_zeros] at this
    rw [dot_smul, dot_smul]; grind
  have hb : 0 < b := by
    have := congrArg (fun v => col v (pv g)) eq
    have this : col (smul a x) (pv g) = col (smul b g) (pv g) := this
    rw [col_smul lx (k.lt hg), col_smul (k.len g hg) (k.lt hg), pg] at this
    have h1 : 0 < a * col x (pv x) := Int.mul_pos ha (h.pos x hx)
    have h2 : 0 < col g (pv x) := by rw [← pg]; exact k.pos g hg
    rw [this] at h1
    exact Int.pos_of_mul_pos_left h1 h2
  rw [prim_unique ha hb (h.prim x hx) (k.prim g hg) eq]
  exact hg
/-- one span: one echelon form -/
theorem Ech.unique {F G : List Vec} (h : Ech n F) (k : Ech n G) (rF : Rise n F) (rG : Rise n G) (e : ∀ v, Gen n F [] v ↔ Gen n G [] v) : F = G :=
  sorted_unique (lt := fun a b => ord n (pv a) < ord n (pv b)) (fun _ => Nat.lt_irrefl _) (fun _ _ a b => Nat.lt_asymm a b) rF rG fun x => ⟨h.sub k e x, k.sub h (fun v => (e v).symm) x⟩
end FM
end
section
set_option linter.all false
/-! dual, and that a cone has one form. -/
namespace FM
variable {n : Nat} {E C L R : List Vec} {u v w : Vec}
def uniq (rs lines : List Vec) : List Vec := rs.foldl (fun acc r => if acc.contains (reduced r lines) then acc else acc ++ [reduced r lines]) []
def sortV (R : List Vec) : List Vec := R.mergeSort fun p q => decide (p ≤ q)
def dual (E C : List Vec) (n : Nat) : List Vec × List Vec :=
  (echelon n (built n E C).lines, sortV (uniq ((built n E C).rays.map (·.1)) (echelon n (built n E C).lines)))

theorem uniq_aux (lines : List Vec) : ∀ (rs acc : List Vec), acc.Nodup → (rs.foldl (fun acc r => if acc.contains (reduced r lines) then acc else acc ++ [reduced r lines]) acc).Nodup ∧
    (∀ x, x ∈ rs.foldl (fun acc r => if acc.contains (reduced r lines) then acc else acc ++ [reduced r lines]) acc ↔ x ∈ acc ∨ ∃ r ∈ rs, x = reduced r lines) ∧
    (rs.foldl (fun acc r => if acc.contains (reduced r lines) then acc else acc ++ [reduced r lines]) acc).length ≤ acc.length + rs.length
  | [], acc, h => ⟨h, fun x => by simp, by simp⟩
  | r :: rs, acc, h => by
    rw [List.foldl_cons]
    by_cases hc : acc.contains (reduced r lines) = true
    · rw [if_pos hc]
      obtain ⟨h1, h2, h3⟩ := uniq_aux lines rs acc h
      refine ⟨h1, fun x => ?_, by rw [List.length_cons]; omega⟩
      rw [h2]
      have hm : reduced r lines ∈ acc := by simpa using hc
      constructor
      · rintro (q | ⟨s, hs, e⟩)
        · exact .inl q
        · exact .inr ⟨s, by simp [hs], e⟩
      · rintro (q | ⟨s, hs, e⟩)
        · exact .inl q
        · rcases List.mem_cons.mp hs with rfl | hs
          · rw [e]; exact .inl hm
          · exact .inr ⟨s, hs, e⟩
    · rw [if_neg hc]
      have hm : reduced r lines ∉ acc := by simpa using hc
      obtain ⟨h1, h2, h3⟩ := uniq_aux lines rs (acc ++ [reduced r lines]) (by
        rw [List.nodup_append]
        exact ⟨h, by simp, fun a ha b hb => by rw [List.mem_singleton] at hb; rw [hb]; exact fun e => hm (e ▸ ha)⟩)
      refine ⟨h1, fun x => ?_, by rw [List.length_append, List.length_singleton] at h3; rw [List.length_cons]; omega⟩
      rw [h2]
      rw [List.mem_append, List.mem_singleton]
      simp only [List.mem_cons]
      constructor
      · rintro ((q | q) | ⟨s, hs, e⟩)
        · exact .inl q
        · exact .inr ⟨r, .inl rfl, q⟩
        · exact .inr ⟨s, .inr hs, e⟩
      · rintro (q | ⟨s, hs, e⟩)
        · exact .inl (.inl q)
        · rcases hs with rfl | hs
          · exact .inl (.inr e)
          · exact .inr ⟨s, hs, e⟩
theorem uniq_spec (rs lines : List Vec) : (uniq rs lines).Nodup ∧ (∀ x, x ∈ uniq rs lines ↔ ∃ r ∈ rs, x = reduced r lines) ∧ (uniq rs lines).length ≤ rs.length := by
  obtain ⟨h1, h2, h3⟩ := uniq_aux lines rs [] .nil
  exact ⟨h1, fun x => by rw [uniq, h2]; simp, by rw [uniq]; rw [List.length_nil, Nat.zero_add] at h3; exact h3⟩
theorem le_antisymm' {a b : Vec} (h1 : a ≤ b) (h2 : b ≤ a) : a = b := List.le_antisymm h1 h2
theorem sortV_spec {R : List Vec} (h : R.Nodup) : (sortV R).Pairwise (· < ·) ∧ (∀ x, x ∈ sortV R ↔ x ∈ R) ∧ (sortV R).length = R.length := by
  have p : (sortV R).Perm R := List.mergeSort_perm _ _
  refine ⟨?_, fun x => p.mem_iff, p.length_eq⟩
  have s : (sortV R).Pairwise fun a b => decide (a ≤ b) = true := List.pairwise_mergeSort (fun a b c h1 h2 => by simp only [decide_eq_true_eq] at *; exact List.le_trans h1 h2)
    (fun a b => by simp only [Bool.or_eq_true, decide_eq_true_eq]; exact List.le_total a b) _
  have nd : (sortV R).Pairwise (· ≠ ·) := p.symm.pairwise h fun {a b} q e => q e.symm
  refine (s.and nd).imp fun {a b} ⟨h1, h2⟩ => ?_
  rw [decide_eq_true_eq] at h1
  rcases Classical.em (a < b) with h | h
  · exact h
  · exact absurd (le_antisymm' h1 (List.not_lt.mp h)) h2

/-- the one form of a cone -/
structure Cone (n : Nat) (E C L R : List Vec) : Prop where
  ech : Ech n L
  rise : Rise n L
  lenr : Lens n R
  gen : ∀ v, Gen n L R v ↔ v.length = n ∧ Sat E C v
  prim : ∀ r ∈ R, gcdL r = 1
  piv0 : ∀ r ∈ R, ∀ k ∈ L, col r (pv k) = 0
  notall : ∀ r ∈ R, ∃ c ∈ C, 0 < dot c r
  inc : ∀ r ∈ R, ∀ s ∈ R, r ≠ s → ¬ TS (E ++ C) r s
  srt : R.Pairwise (· < ·)
theorem Cone.lensL (h : Cone n E C L R) : Lens n L := fun x hx => h.ech.len x hx
theorem Cone.zero (h : Cone n E C L R) : ∀ p ∈ E ++ C, ∀ l ∈ L, dot p l = 0 := fun p hp l hl => by
  have h1 := ((h.gen l).mp (.line hl)).2
  have h2 := ((h.gen (neg l)).mp (.nline hl)).2
  rcases List.mem_append.mp hp with hp | hp
  · exact h1.1 p hp
  · have a := h1.2 p hp
    have b := h2.2 p hp
    rw [dot_neg] at b
    omega
theorem Cone.ge (h : Cone n E C L R) : ∀ p ∈ E ++ C, ∀ r ∈ R, 0 ≤ dot p r := fun p hp r hr => by
  have h1 := ((h.gen r).mp (.ray hr)).2
  rcases List.mem_append.mp hp with hp | hp
  · exact Int.le_of_eq (h1.1 p hp).symm
  · exact h1.2 p hp
/-- the reduced rays of a builder -/
theorem reduced_spec {F : List Vec} {v : Vec} (h : Ech n F) (hv : v.length = n) : (reduced v F).length = n ∧ (∀ k ∈ F, col (reduced v F) (pv k) = 0) ∧ Near n F (reduced v F) v ∧ gcdL (reduced v F) ≤ 1 := by
  have hp : (primitive v).length = n := by rw [primitive_length]; exact hv
  obtain ⟨h1, h2, h3, _, h5⟩ := clears_spec h hp
  exact ⟨h1, h2, Near.trans h1 hp hv h3 (near_primitive hv), h5 (primitive_le v)⟩
/-- near: the same signs of all that is 0 on the lines -/
theorem near_sign {F : List Vec} {p : Vec} (hF : Lens n F) (hu : u.length = n) (hv : v.length = n) (h : Near n F u v) (z : ∀ l ∈ F, dot p l = 0) : (dot p u = 0 ↔ dot p v = 0) ∧ (0 < dot p u ↔ 0 < dot p v) ∧ (0 ≤ dot p u ↔ 0 ≤ dot p v) := by
  obtain ⟨a, b, ha, hb, g⟩ := h
  have := g.dot_zero (c := p) (R := []) hF (fun x hx => nomatch hx) z (fun x hx => nomatch hx)
  rw [dot_comb _ _ _ (hu.trans hv.symm)] at this
  exact sign_mul ha hb (by rw [Int.neg_mul] at this; omega)
theorem dual_cone (hE : Lens n E) (hC : Lens n C) : Cone n E C (dual E C n).1 (dual E C n).2 ∧ (dual E C n).2.length ≤ (built n E C).rays.length := by
  have I := built_inv hE hC
  obtain ⟨e1, e2, e3⟩ := echelon_spec I.lens
  unfold dual
  simp only
  generalize hL : echelon n (built n E C).lines = L at *
  obtain ⟨u1, u2, u3⟩ := uniq_spec ((built n E C).rays.map (·.1)) L
  obtain ⟨s1, s2, s3⟩ := sortV_spec u1
  have lL : Lens n L := fun x hx => e1.len x hx
  have mem : ∀ x, x ∈ sortV (uniq ((built n E C).rays.map (·.1)) L) ↔ ∃ r ∈ (built n E C).rays, x = reduced r.1 L := fun x => by
    rw [s2, u2]
    constructor
    · rintro ⟨r, hr, e⟩
      obtain ⟨q, hq, rfl⟩ := List.mem_map.mp hr
      exact ⟨q, hq, e⟩
    · rintro ⟨r, hr, e⟩
      exact ⟨r.1, List.mem_map_of_mem hr, e⟩
  have zL : ∀ p ∈ E ++ C, ∀ l ∈ L, dot p l = 0 := fun p hp l hl => ((e3 l).mp (.line hl)).dot_zero I.lens (R := []) (fun x hx => nomatch hx) (fun m hm => I.zero m hm p hp) (fun x hx => nomatch hx)
  have rs := fun r hr => reduced_spec (n := n) (v := Prod.fst r) e1 (I.lr r hr)
  have sg := fun r hr p hp => near_sign (p := p) lL (rs r hr).1 (I.lr r hr) (rs r hr).2.2.1 (zL p hp)
  have lr : Lens n (sortV (uniq ((built n E C).rays.map (·.1)) L)) := fun x hx => by
    obtain ⟨r, hr, rfl⟩ := (mem x).mp hx
    exact (rs r hr).1
  have na : ∀ r ∈ (built n E C).rays, ∃ c ∈ C, 0 < dot c (reduced r.1 L) := fun r hr => by
    obtain ⟨c, hc, k⟩ := I.notall r hr
    exact ⟨c, hc, ((sg r hr c (by simp [hc])).2.1).mpr k⟩
  refine ⟨⟨e1, e2, lr, fun v => ?_, ?_, ?_, ?_, ?_, s1⟩, ?_⟩
  · constructor
    · intro g
      refine ⟨g.len lL lr, fun e he => ?_, fun c hc => ?_⟩
      · refine g.dot_zero lL lr (zL e (by simp [he])) fun x hx => ?_
        obtain ⟨r, hr, rfl⟩ := (mem x).mp hx
        exact ((sg r hr e (by simp [he])).1).mpr (I.eqr r hr e he)
      · refine g.dot_nonneg lL lr (zL c (by simp [hc])) fun x hx => ?_
        obtain ⟨r, hr, rfl⟩ := (mem x).mp hx
        exact ((sg r hr c (by simp [hc])).2.2).mpr (I.ger r hr c hc)
    · rintro ⟨hv, s⟩
      have g := I.comp v hv s
      have lift : ∀ l, Gen n (built n E C).lines [] l → Gen n L (sortV (uniq ((built n E C).rays.map (·.1)) L)) l := fun l gl => ((e3 l).mpr gl).of_span
      refine g.mono (fun l hl => ⟨lift l (.line hl), lift _ (.nline hl)⟩) fun x hx => ?_
      obtain ⟨r, hr, rfl⟩ := List.mem_map.mp hx
      obtain ⟨a, b, ha, hb, k⟩ := (rs r hr).2.2.1
      refine .div hb (I.lr r hr) ?_
      have e : smul b r.1 = comb a (reduced r.1 L) 1 (neg (comb a (reduced r.1 L) (-b) r.1)) := by
        refine ext_dot (by simp [(rs r hr).1, I.lr r hr]) fun q _ => ?_
        rw [dot_smul, dot_comb _ _ _ (by simp [(rs r hr).1, I.lr r hr]), dot_neg, dot_comb _ _ _ (by simp [(rs r hr).1, I.lr r hr])]
        exact alg4 _ _ _ _
      rw [e]
      exact .comb (Int.le_of_lt ha) (by decide) (.ray ((mem _).mpr ⟨r, hr, rfl⟩)) k.neg_span.of_span
  · intro x hx
    obtain ⟨r, hr, rfl⟩ := (mem x).mp hx
    obtain ⟨c, hc, k⟩ := na r hr
    exact gcd_one (p := c) (rs r hr).2.2.2 (by omega)
  · intro x hx k hk
    obtain ⟨r, hr, rfl⟩ := (mem x).mp hx
    exact (rs r hr).2.1 k hk
  · intro x hx
    obtain ⟨r, hr, rfl⟩ := (mem x).mp hx
    exact na r hr
  · intro x hx y hy ne t
    obtain ⟨r, hr, rfl⟩ := (mem x).mp hx
    obtain ⟨s, hs, rfl⟩ := (mem y).mp hy
    exact I.incv r hr s hs (fun q => ne (by rw [q])) fun p hp z => ((sg s hs p hp).1).mp (t p hp (((sg r hr p hp).1).mpr z))
  · rw [s3]
    have := u3
    simpa using this
where
  alg4 (a b x y : Int) : b * y = a * x + 1 * -(a * x + -b * y) := by grind

/-! ### one cone, one form -/
/-- in the cone and in its negative: the span of the lines -/
theorem Cone.lines (h : Cone n E C L R) (v : Vec) : Gen n L [] v ↔ v.length = n ∧ Sat E C v ∧ Sat E C (neg v) := by
  constructor
  · intro g
    have h1 := (h.gen v).mp g.of_span
    have h2 := (h.gen (neg v)).mp g.neg_span.of_span
    exact ⟨h1.1, h1.2, h2.2⟩
  · rintro ⟨hv, s1, s2⟩
    have g := (h.gen v).mpr ⟨hv, s1⟩
    obtain ⟨F, hF, gF⟩ := g.face (P := E ++ C) h.lensL h.lenr h.zero h.ge
    refine gF.mono (R' := []) (fun l hl => ⟨.line hl, .nline hl⟩) fun r hr => ?_
    exfalso
    obtain ⟨c, hc, k⟩ := h.notall r (hF r hr).1
    have z : dot c v = 0 := by
      have a := s1.2 c hc
      have b := s2.2 c hc
      rw [dot_neg] at b
      omega
    have := (hF r hr).2 c (by simp [hc]) z
    omega
/-- a point of the cone that is tight where a ray is: a multiple of the ray, but for the lines -/
theorem Cone.extreme (h : Cone n E C L R) {r : Vec} (hr : r ∈ R) (hv : v.length = n) (s : Sat E C v) (t : TS (E ++ C) r v) : Gen n L [r] v := by
  have g := (h.gen v).mpr ⟨hv, s⟩
  obtain ⟨F, hF, gF⟩ := g.face (P := E ++ C) h.lensL h.lenr h.zero h.ge
  refine gF.sub fun x hx => ?_
  rw [List.mem_singleton]
  refine Classical.byContradiction fun ne => ?_
  exact h.inc r hr x (hF x hx).1 (Ne.symm ne) (t.trans (hF x hx).2)
theorem Cone.sub {E' C' L' R' : List Vec} (h : Cone n E C L R) (k : Cone n E' C' L' R') (e : ∀ v, v.length = n → (Sat E C v ↔ Sat E' C' v)) (eL : L = L') : ∀ r ∈ R, r ∈ R' := fun r hr => by
  have lr := h.lenr r hr
  have sr := ((h.gen r).mp (.ray hr)).2
  have g' := (k.gen r).mpr ⟨lr, (e r lr).mp sr⟩
  have zl' : ∀ p ∈ E ++ C, ∀ l ∈ L', dot p l = 0 := fun p hp l hl => by rw [← eL] at hl; exact h.zero p hp l hl
  have zr' : ∀ p ∈ E ++ C, ∀ x ∈ R', 0 ≤ dot p x := fun p hp x hx => by
    have := (e x (k.lenr x hx)).mpr ((k.gen x).mp (.ray hx)).2
    rcases List.mem_append.mp hp with hp | hp
    · exact Int.le_of_eq (this.1 p hp).symm
    · exact this.2 p hp
  obtain ⟨F, hF, gF⟩ := g'.face (P := E ++ C) k.lensL k.lenr zl' zr'
  cases F with
  | nil =>
    exfalso
    obtain ⟨c, hc, kc⟩ := h.notall r hr
    have := gF.dot_zero (c := c) k.lensL (R := []) (fun x hx => nomatch hx) (fun l hl => zl' c (by simp [hc]) l hl) (fun x hx => nomatch hx)
    omega
  | cons x F =>
    obtain ⟨hx, tx⟩ := hF x (by simp)
    have lx := k.lenr x hx
    have sx := (e x lx).mpr ((k.gen x).mp (.ray hx)).2
    have g1 := h.extreme hr lx sx tx
    obtain ⟨a, b, ha, hb, g2⟩ := g1.one h.lensL lr
    have lw : (comb a x (-b) r).length = n := comb_len lx lr
    have z : comb a x (-b) r = zeros n := h.ech.zero g2 lw fun q hq => by
      rw [col_comb lx lr (h.ech.lt hq), k.piv0 x hx q (by rw [← eL]; exact hq), h.piv0 r hr q hq]; simp
    have eq : smul a x = smul b r := by
      refine ext_dot (by simp [lx, lr]) fun w _ => ?_
      have := congrArg (dot w) z
      rw [dot_comb _ _ _ (lx.trans lr.symm), dot_zeros] at this
      rw [dot_smul, dot_smul]; grind
    have hb' : 0 < b := by
      rcases Int.lt_or_eq_of_le hb with q | q
      · exact q
      · exfalso
        obtain ⟨c, hc, kc⟩ := k.notall x hx
        have := congrArg (dot c) eq
        rw [dot_smul, dot_smul, ← q, Int.zero_mul] at this
        have := pos_of_mul ha this
        omega
    rw [← prim_unique ha hb' (k.prim x hx) (h.prim r hr) eq]
    exact hx
theorem list_lt_irrefl (a : Vec) : ¬ a < a := List.lt_irrefl a
theorem Cone.unique {E' C' L' R' : List Vec} (h : Cone n E C L R) (k : Cone n E' C' L' R') (e : ∀ v, v.length = n → (Sat E C v ↔ Sat E' C' v)) : L = L' ∧ R = R' := by
  have eL : L = L' := h.ech.unique k.ech h.rise k.rise fun v => by
    rw [h.lines, k.lines]
    constructor
    · rintro ⟨a, b, c⟩
      exact ⟨a, (e v a).mp b, (e _ (by simpa using a)).mp c⟩
    · rintro ⟨a, b, c⟩
      exact ⟨a, (e v a).mpr b, (e _ (by simpa using a)).mpr c⟩
  exact ⟨eL, sorted_unique (lt := fun a b : Vec => a < b) list_lt_irrefl (fun a b h1 h2 => List.lt_irrefl a (List.lt_trans h1 h2)) h.srt k.srt fun x =>
    ⟨h.sub k e eL x, k.sub h (fun v hv => (e v hv).symm) eL.symm x⟩⟩
end FM
end
section
set_option linter.all false
/-! Farkas; polyhedra as cones. -/
namespace FM
variable {n : Nat} {u v w : Vec}
theorem farkas_rays : ∀ (m : Nat) (A : List Vec) (b : Vec), A.length = m → Lens n A → b.length = n → (∀ x, x.length = n → (∀ a ∈ A, 0 ≤ dot a x) → 0 ≤ dot b x) → Gen n [] A b
  | 0, [], b, _, _, hb, h => by
    have := h (neg b) (by simpa using hb) fun a ha => nomatch ha
    rw [dot_neg] at this
    have h2 := dot_self_nonneg b
    have : b = zeros n := by rw [zero_of_dot_self b (by omega), hb]
    rw [this]; exact .zero
  | 0, _ :: _, _, h, _, _, _ => by simp at h
  | m + 1, [], _, h, _, _, _ => by simp at h
  | m + 1, a :: A, b, hm, hA, hb, h => by
    have la : a.length = n := hA a (by simp)
    have lA : Lens n A := fun x hx => hA x (by simp [hx])
    by_cases h1 : ∀ x, x.length = n → (∀ a ∈ A, 0 ≤ dot a x) → 0 ≤ dot b x
    · exact (farkas_rays m A b (by simpa using hm) lA hb h1).sub fun r hr => by simp [hr]
    · obtain ⟨x, hx, hax, hbx⟩ : ∃ x : Vec, x.length = n ∧ (∀ a ∈ A, 0 ≤ dot a x) ∧ dot b x < 0 := by
        refine Classical.byContradiction fun no => h1 fun x hx k => ?_
        refine Classical.byContradiction fun k2 => no ⟨x, hx, k, by omega⟩
      have ax : dot a x < 0 := by
        refine Classical.byContradiction fun k => ?_
        have := h x hx fun q hq => by
          rcases List.mem_cons.mp hq with rfl | hq
          · omega
          · exact hax q hq
        omega
      have lf : Lens n (A.map fun q => comb (-dot a x) q (dot q x) a) := fun y hy => by
        obtain ⟨q, hq, rfl⟩ := List.mem_map.mp hy
        exact comb_len (lA q hq) la
      have g := farkas_rays m (A.map fun q => comb (-dot a x) q (dot q x) a) (comb (-dot a x) b (dot b x) a) (by simpa using hm) lf (comb_len hb la) fun y hy k => by
        have e : ∀ q : Vec, q.length = n → dot (comb (-dot a x) q (dot q x) a) y = dot q (comb (-dot a x) y (dot a y) x) := fun q hq => by
          rw [dot_comm, dot_comb _ _ _ (hq.trans la.symm), dot_comb _ _ _ (hy.trans hx.symm), dot_comm y q, dot_comm y a]
          exact alg5 _ _ _ _
        rw [e b hb]
        refine h _ (comb_len hy hx) fun q hq => ?_
        rcases List.mem_cons.mp hq with rfl | hq
        · rw [dot_comb _ _ _ (hy.trans hx.symm)]
          exact Int.le_of_eq (alg6 _ _).symm
        · rw [← e q (lA q hq)]
          exact k _ (List.mem_map.mpr ⟨q, hq, rfl⟩)
      refine .div (k := -dot a x) (by omega) hb ?_
      have e : smul (-dot a x) b = comb 1 (comb (-dot a x) b (dot b x) a) (-dot b x) a := by
        refine ext_dot (by simp [hb, la]) fun q _ => ?_
        rw [dot_smul, dot_comb _ _ _ (by simp [hb, la]), dot_comb _ _ _ (by simp [hb, la])]
        exact alg7 _ _ _ _
      rw [e]
      refine .comb (by decide) (by omega) (g.mono (fun l hl => nomatch hl) fun r hr => ?_) (.ray (by simp))
      obtain ⟨q, hq, rfl⟩ := List.mem_map.mp hr
      exact .comb (by omega) (hax q hq) (.ray (by simp [hq])) (.ray (by simp))
where
  alg5 (s t x y : Int) : s * x + t * y = s * x + y * t := by grind
  alg6 (s t : Int) : -s * t + t * s = 0 := by grind
  alg7 (s t x y : Int) : s * x = 1 * (s * x + t * y) + -t * y := by grind
/-- what holds on all c with l . c = 0 and r . c >= 0 is in their hull -/
theorem farkas {L R : List Vec} (hL : Lens n L) (hR : Lens n R) (hv : v.length = n) (h : ∀ c, c.length = n → Sat L R c → 0 ≤ dot c v) : Gen n L R v := by
  have lA : Lens n (L ++ (L.map neg ++ R)) := fun x hx => by
    simp only [List.mem_append, List.mem_map] at hx
    rcases hx with hx | ⟨q, hq, rfl⟩ | hx
    · exact hL x hx
    · rw [neg_length]; exact hL q hq
    · exact hR x hx
  have g := farkas_rays _ (L ++ (L.map neg ++ R)) v rfl lA hv fun x hx k => by
    rw [dot_comm]
    refine h x hx ⟨fun l hl => ?_, fun r hr => k r (by simp [hr])⟩
    have a := k l (by simp [hl])
    have b := k (neg l) (by simp only [List.mem_append, List.mem_map]; exact .inr (.inl ⟨l, hl, rfl⟩))
    rw [dot_comm, dot_neg, dot_comm] at b
    omega
  refine g.mono (fun l hl => nomatch hl) fun r hr => ?_
  simp only [List.mem_append, List.mem_map] at hr
  rcases hr with hr | ⟨q, hq, rfl⟩ | hr
  · exact .line hr
  · exact .nline hq
  · exact .ray hr

/-! ### polyhedra -/
abbrev Poly := Nat × List Vec × List Vec
def horizon (n : Nat) : Vec := 1 :: zeros n
def settled (n : Nat) (lines rays : List Vec) : Poly := (n, (dual lines rays (n + 1)).1, (dual lines rays (n + 1)).2.filter fun f => f != horizon n)
def polyhedron (n : Nat) (conds eqs : List Vec) : Option Poly :=
  if (dual eqs (conds ++ [horizon n]) (n + 1)).2.all (fun r => col r 0 == 0) then none else some (settled n (dual eqs (conds ++ [horizon n]) (n + 1)).1 (dual eqs (conds ++ [horizon n]) (n + 1)).2)
structure Gens where
  points : List Vec
  rays : List Vec
  lines : List Vec
def generators (P : Poly) : Gens :=
  ⟨(dual P.2.1 (P.2.2 ++ [horizon P.1]) (P.1 + 1)).2.filter fun r => decide (0 < col r 0), (dual P.2.1 (P.2.2 ++ [horizon P.1]) (P.1 + 1)).2.filter fun r => col r 0 == 0, (dual P.2.1 (P.2.2 ++ [horizon P.1]) (P.1 + 1)).1⟩
def spanned (n : Nat) (points rays lines : List Vec) : Poly := settled n lines (points ++ rays)
def hasPoint (P : Poly) (p : Vec) : Bool := P.2.1.all (fun e => dot e p == 0) && P.2.2.all fun f => decide (0 ≤ dot f p)
def meet (P Q : Poly) : Option Poly := polyhedron P.1 (P.2.2 ++ Q.2.2) (P.2.1 ++ Q.2.1)
def extended (P : Poly) (dirs : List Vec) : Poly := spanned P.1 (generators P).points ((generators P).rays ++ dirs) (generators P).lines

/-- the cone of a polyhedron -/
def K (n : Nat) (P : Poly) (v : Vec) : Prop := v.length = n + 1 ∧ Sat P.2.1 (P.2.2 ++ [horizon n]) v
theorem horizon_len (n : Nat) : (horizon n).length = n + 1 := by simp [horizon]
theorem dot_horizon (hv : v.length = n + 1) : dot (horizon n) v = col v 0 := by
  rw [show horizon n = unit (n + 1) 0 by rw [unit_zero]; rfl, col_unit hv (by omega)]
/-- generators of a polyhedron -/
structure GenOk (n : Nat) (L R : List Vec) : Prop where
  lensL : Lens (n + 1) L
  lensR : Lens (n + 1) R
  line0 : ∀ l ∈ L, col l 0 = 0
  ray0 : ∀ r ∈ R, 0 ≤ col r 0
  point : ∃ r ∈ R, 0 < col r 0
theorem GenOk.hd {L R : List Vec} (h : GenOk n L R) (g : Gen (n + 1) L R v) : 0 ≤ col v 0 := by
  rw [← dot_horizon (g.len h.lensL h.lensR)]
  exact g.dot_nonneg h.lensL h.lensR (fun l hl => by rw [dot_horizon (h.lensL l hl)]; exact h.line0 l hl) fun r hr => by rw [dot_horizon (h.lensR r hr)]; exact h.ray0 r hr
/-- in one form, with a point -/
def WF (n : Nat) (P : Poly) : Prop := ∃ L R, GenOk n L R ∧ P = settled n L R
theorem sat_gen {L R : List Vec} (hL : Lens n L) (hR : Lens n R) (c : Vec) : Sat L R c ↔ ∀ v, Gen n L R v → 0 ≤ dot c v := by
  constructor
  · intro s v g
    exact g.dot_nonneg hL hR (fun l hl => by rw [dot_comm]; exact s.1 l hl) fun r hr => by rw [dot_comm]; exact s.2 r hr
  · intro h
    refine ⟨fun l hl => ?_, fun r hr => ?_⟩
    · have a := h l (.line hl)
      have b := h (neg l) (.nline hl)
      rw [dot_neg] at b
      rw [dot_comm]; omega
    · rw [dot_comm]; exact h r (.ray hr)
theorem settled_K {L R : List Vec} (h : GenOk n L R) (v : Vec) : K n (settled n L R) v ↔ Gen (n + 1) L R v := by
  obtain ⟨D, _⟩ := dual_cone (n := n + 1) h.lensL h.lensR
  unfold K settled
  constructor
  · rintro ⟨hv, s1, s2⟩
    refine farkas h.lensL h.lensR hv fun c hc s => ?_
    have g := (D.gen c).mpr ⟨hc, s⟩
    rw [dot_comm]
    refine g.dot_nonneg D.lensL D.lenr (fun l hl => by rw [dot_comm]; exact s1 l hl) fun f hf => ?_
    rw [dot_comm]
    refine s2 f ?_
    simp only [List.mem_append, List.mem_filter, bne_iff_ne, ne_eq, List.mem_singleton]
    by_cases e : f = horizon n
    · exact .inr e
    · exact .inl ⟨hf, e⟩
  · intro g
    have hv := g.len h.lensL h.lensR
    refine ⟨hv, fun e he => ?_, fun f hf => ?_⟩
    · have a := (sat_gen h.lensL h.lensR e).mp ((D.gen e).mp (.line he)).2 v g
      have b := (sat_gen h.lensL h.lensR (neg e)).mp ((D.gen (neg e)).mp (.nline he)).2 v g
      rw [dot_comm, dot_neg, dot_comm] at b
      omega
    · simp only [List.mem_append, List.mem_filter, List.mem_singleton] at hf
      rcases hf with hf | hf
      · exact (sat_gen h.lensL h.lensR f).mp ((D.gen f).mp (.ray hf.1)).2 v g
      · rw [hf, dot_horizon hv]; exact h.hd g
theorem settled_unique {L R L' R' : List Vec} (h : GenOk n L R) (k : GenOk n L' R') (e : ∀ v, Gen (n + 1) L R v ↔ Gen (n + 1) L' R' v) : settled n L R = settled n L' R' := by
  obtain ⟨D, _⟩ := dual_cone (n := n + 1) h.lensL h.lensR
  obtain ⟨D', _⟩ := dual_cone (n := n + 1) k.lensL k.lensR
  obtain ⟨e1, e2⟩ := D.unique D' fun c _ => by
    rw [sat_gen h.lensL h.lensR, sat_gen k.lensL k.lensR]
    exact ⟨fun q v g => q v ((e v).mpr g), fun q v g => q v ((e v).mp g)⟩
  unfold settled
  rw [e1, e2]
theorem WF.unique {P Q : Poly} (h : WF n P) (k : WF n Q) (e : ∀ v, K n P v ↔ K n Q v) : P = Q := by
  obtain ⟨L, R, g, rfl⟩ := h
  obtain ⟨L', R', g', rfl⟩ := k
  exact settled_unique g g' fun v => by rw [← settled_K g, ← settled_K g']; exact e v
theorem WF.en {P : Poly} (h : WF n P) : P.1 = n := by
  obtain ⟨L, R, _, rfl⟩ := h
  rfl
theorem WF.lens {P : Poly} (h : WF n P) : Lens (n + 1) P.2.1 ∧ Lens (n + 1) P.2.2 := by
  obtain ⟨L, R, g, rfl⟩ := h
  obtain ⟨D, _⟩ := dual_cone (n := n + 1) g.lensL g.lensR
  exact ⟨D.lensL, fun f hf => D.lenr f (List.mem_filter.mp hf).1⟩
theorem K.hd {P : Poly} (h : K n P v) : 0 ≤ col v 0 := by
  rw [← dot_horizon h.1]
  exact h.2.2 _ (by simp)
theorem lens_app {A B : List Vec} (hA : Lens n A) (hB : Lens n B) : Lens n (A ++ B) := fun x hx => by
  rcases List.mem_append.mp hx with h | h
  · exact hA x h
  · exact hB x h
theorem lens_horizon {A : List Vec} (hA : Lens (n + 1) A) : Lens (n + 1) (A ++ [horizon n]) := lens_app hA fun x hx => by
  rw [List.mem_singleton] at hx; rw [hx, horizon_len]
/-- the cone of the conditions with the horizon: its generators are good for a polyhedron if a point is there -/
theorem cone_genOk {E C L R : List Vec} (D : Cone (n + 1) E (C ++ [horizon n]) L R) (h : ∃ r ∈ R, col r 0 ≠ 0) : GenOk n L R where
  lensL := D.lensL
  lensR := D.lenr
  line0 := fun l hl => by
    rw [← dot_horizon (D.lensL l hl)]
    exact D.zero _ (by simp) l hl
  ray0 := fun r hr => by
    rw [← dot_horizon (D.lenr r hr)]
    exact D.ge _ (by simp) r hr
  point := by
    obtain ⟨r, hr, k⟩ := h
    refine ⟨r, hr, ?_⟩
    have : 0 ≤ col r 0 := by
      rw [← dot_horizon (D.lenr r hr)]
      exact D.ge _ (by simp) r hr
    omega
theorem polyhedron_none {C E : List Vec} (hC : Lens (n + 1) C) (hE : Lens (n + 1) E) (h : polyhedron n C E = none) : ∀ v, v.length = n + 1 → Sat E (C ++ [horizon n]) v → col v 0 = 0 := fun v hv s => by
  obtain ⟨D, _⟩ := dual_cone (n := n + 1) hE (lens_horizon hC)
  unfold polyhedron at h
  split at h
  · rename_i z
    rw [List.all_eq_true] at z
    have g := (D.gen v).mpr ⟨hv, s⟩
    rw [← dot_horizon hv]
    exact g.dot_zero D.lensL D.lenr (fun l hl => D.zero _ (by simp) l hl) fun r hr => by
      rw [dot_horizon (D.lenr r hr)]
      simpa using z r hr
  · cases h
theorem polyhedron_some {C E : List Vec} {P : Poly} (hC : Lens (n + 1) C) (hE : Lens (n + 1) E) (h : polyhedron n C E = some P) : WF n P ∧ ∀ v, K n P v ↔ v.length = n + 1 ∧ Sat E (C ++ [horizon n]) v := by
  obtain ⟨D, _⟩ := dual_cone (n := n + 1) hE (lens_horizon hC)
  unfold polyhedron at h
  split at h
  · cases h
  · rename_i z
    cases h
    have k : GenOk n (dual E (C ++ [horizon n]) (n + 1)).1 (dual E (C ++ [horizon n]) (n + 1)).2 := cone_genOk D (by
      refine Classical.byContradiction fun no => z ?_
      rw [List.all_eq_true]
      intro r hr
      rw [beq_iff_eq]
      exact Classical.byContradiction fun q => no ⟨r, hr, q⟩)
    exact ⟨⟨_, _, k, rfl⟩, fun v => by rw [settled_K k, D.gen]⟩
theorem polyhedron_ok {C E : List Vec} (hC : Lens (n + 1) C) (hE : Lens (n + 1) E) (hv : v.length = n + 1) (s : Sat E (C ++ [horizon n]) v) (p : col v 0 ≠ 0) : ∃ P, polyhedron n C E = some P := by
  cases h : polyhedron n C E with
  | none => exact absurd (polyhedron_none hC hE h v hv s) p
  | some P => exact ⟨P, rfl⟩
/-- a polyhedron has a point -/
theorem WF.point {P : Poly} (h : WF n P) : ∃ v, K n P v ∧ 0 < col v 0 := by
  obtain ⟨L, R, g, rfl⟩ := h
  obtain ⟨r, hr, k⟩ := g.point
  exact ⟨r, (settled_K g r).mpr (.ray hr), k⟩
theorem gen_spec {P : Poly} (h : WF n P) : GenOk n (generators P).lines ((generators P).points ++ (generators P).rays) ∧ (∀ v, Gen (n + 1) (generators P).lines ((generators P).points ++ (generators P).rays) v ↔ K n P v) ∧
    (generators P).points ≠ [] ∧ (∀ p ∈ (generators P).points, 0 < col p 0) ∧ ∀ r ∈ (generators P).rays, col r 0 = 0 := by
  obtain ⟨l1, l2⟩ := h.lens
  have en := h.en
  obtain ⟨D, _⟩ := dual_cone (n := n + 1) l1 (lens_horizon l2)
  have hk : ∃ r ∈ (dual P.2.1 (P.2.2 ++ [horizon n]) (n + 1)).2, col r 0 ≠ 0 := by
    refine Classical.byContradiction fun no => ?_
    obtain ⟨v, kv, pv⟩ := h.point
    have g := (D.gen v).mpr kv
    have := g.dot_zero (c := horizon n) D.lensL D.lenr (fun l hl => D.zero _ (by simp) l hl) fun r hr => by
      rw [dot_horizon (D.lenr r hr)]
      exact Classical.byContradiction fun q => no ⟨r, hr, q⟩
    rw [dot_horizon kv.1] at this
    omega
  have G := cone_genOk D hk
  unfold generators
  rw [en]
  simp only
  have mem : ∀ x, x ∈ (dual P.2.1 (P.2.2 ++ [horizon n]) (n + 1)).2.filter (fun r => decide (0 < col r 0)) ++ (dual P.2.1 (P.2.2 ++ [horizon n]) (n + 1)).2.filter (fun r => col r 0 == 0) ↔ x ∈ (dual P.2.1 (P.2.2 ++ [horizon n]) (n + 1)).2 := fun x => by
    simp only [List.mem_append, List.mem_filter, decide_eq_true_eq, beq_iff_eq]
    constructor
    · rintro (q | q)
      · exact q.1
      · exact q.1
    · intro hx
      have := G.ray0 x hx
      rcases Int.lt_or_eq_of_le this with q | q
      · exact .inl ⟨hx, q⟩
      · exact .inr ⟨hx, q.symm⟩
  refine ⟨⟨G.lensL, fun x hx => G.lensR x ((mem x).mp hx), G.line0, fun x hx => G.ray0 x ((mem x).mp hx), ?_⟩, fun v => ?_, ?_, ?_, ?_⟩
  · obtain ⟨r, hr, k⟩ := G.point
    exact ⟨r, (mem r).mpr hr, k⟩
  · rw [show K n P v ↔ v.length = n + 1 ∧ Sat P.2.1 (P.2.2 ++ [horizon n]) v from Iff.rfl, ← D.gen v]
    exact ⟨fun g => g.sub fun r hr => (mem r).mp hr, fun g => g.sub fun r hr => (mem r).mpr hr⟩
  · obtain ⟨r, hr, k⟩ := G.point
    intro e
    have : r ∈ (dual P.2.1 (P.2.2 ++ [horizon n]) (n + 1)).2.filter (fun r => decide (0 < col r 0)) := List.mem_filter.mpr ⟨hr, by simpa using k⟩
    rw [e] at this
    exact nomatch this
  · intro p hp
    simpa using (List.mem_filter.mp hp).2
  · intro p hp
    simpa using (List.mem_filter.mp hp).2
theorem meet_some {P Q R : Poly} (h : WF n P) (k : WF n Q) (e : meet P Q = some R) : WF n R ∧ ∀ v, K n R v ↔ K n P v ∧ K n Q v := by
  unfold meet at e
  rw [h.en] at e
  obtain ⟨w, s⟩ := polyhedron_some (lens_app h.lens.2 k.lens.2) (lens_app h.lens.1 k.lens.1) e
  refine ⟨w, fun v => ?_⟩
  rw [s]
  unfold K Sat
  simp only [List.mem_append, List.mem_singleton]
  constructor
  · rintro ⟨a, b, c⟩
    exact ⟨⟨a, fun e he => b e (.inl he), fun f hf => c f (hf.elim (fun q => .inl (.inl q)) .inr)⟩, a, fun e he => b e (.inr he), fun f hf => c f (hf.elim (fun q => .inl (.inr q)) .inr)⟩
  · rintro ⟨⟨a, b, c⟩, _, b', c'⟩
    exact ⟨a, fun e he => he.elim (b e) (b' e), fun f hf => by
      rcases hf with (hf | hf) | hf
      · exact c f (.inl hf)
      · exact c' f (.inl hf)
      · exact c f (.inr hf)⟩
theorem meet_ok {P Q : Poly} (h : WF n P) (k : WF n Q) (hp : K n P v) (hq : K n Q v) (z : col v 0 ≠ 0) : ∃ R, meet P Q = some R := by
  unfold meet
  rw [h.en]
  refine polyhedron_ok (lens_app h.lens.2 k.lens.2) (lens_app h.lens.1 k.lens.1) hp.1 ⟨fun e he => ?_, fun f hf => ?_⟩ z
  · rcases List.mem_append.mp he with he | he
    · exact hp.2.1 e he
    · exact hq.2.1 e he
  · simp only [List.mem_append, List.mem_singleton] at hf
    rcases hf with (hf | hf) | hf
    · exact hp.2.2 f (by simp [hf])
    · exact hq.2.2 f (by simp [hf])
    · exact hp.2.2 f (by simp [hf])
theorem hasPoint_K {P : Poly} (hv : v.length = n + 1) (hd : 0 ≤ col v 0) : hasPoint P v = true ↔ K n P v := by
  unfold hasPoint K Sat
  simp only [Bool.and_eq_true, List.all_eq_true, beq_iff_eq, decide_eq_true_eq, List.mem_append, List.mem_singleton]
  constructor
  · rintro ⟨a, b⟩
    exact ⟨hv, a, fun f hf => by
      rcases hf with hf | hf
      · exact b f hf
      · rw [hf, dot_horizon hv]; exact hd⟩
  · rintro ⟨_, a, b⟩
    exact ⟨a, fun f hf => b f (.inl hf)⟩
/-- directions: vectors with item 0 = 0 -/
def Dirs (n : Nat) (D : List Vec) : Prop := ∀ d ∈ D, d.length = n + 1 ∧ col d 0 = 0
theorem extended_spec {P : Poly} {D : List Vec} (h : WF n P) (hD : Dirs n D) : WF n (extended P D) ∧ ∀ v, K n (extended P D) v ↔ Gen (n + 1) (generators P).lines ((generators P).points ++ ((generators P).rays ++ D)) v := by
  obtain ⟨G, _, _, _, _⟩ := gen_spec h
  have k : GenOk n (generators P).lines ((generators P).points ++ ((generators P).rays ++ D)) := by
    refine ⟨G.lensL, fun x hx => ?_, G.line0, fun x hx => ?_, ?_⟩
    · rw [← List.append_assoc] at hx
      rcases List.mem_append.mp hx with hx | hx
      · exact G.lensR x hx
      · exact (hD x hx).1
    · rw [← List.append_assoc] at hx
      rcases List.mem_append.mp hx with hx | hx
      · exact G.ray0 x hx
      · rw [(hD x hx).2]; exact Int.le_refl 0
    · obtain ⟨r, hr, p⟩ := G.point
      exact ⟨r, by rw [← List.append_assoc]; exact List.mem_append_left _ hr, p⟩
  unfold extended spanned
  rw [h.en]
  exact ⟨⟨_, _, k, rfl⟩, settled_K k⟩
end FM
end
section
set_option linter.all false
/-! Waits, at the level of cones. -/
namespace FM
variable {n : Nat} {u v w : Vec}
def holds (inv : List Vec) (p : Vec) : Prop := ∀ c ∈ inv, 0 ≤ dot c p
def inside (n : Nat) (inv : List Vec) (P : Poly) : Option Poly :=
  match polyhedron n inv [] with
  | none => none
  | some I => meet P I
def stretched (n : Nat) (inv : List Vec) (P : Poly) (D : List Vec) : Option Poly :=
  match inside n inv P with
  | none => none
  | some part => inside n inv (extended part D)
def negs (D : List Vec) : List Vec := D.map neg

theorem inside_some {inv : List Vec} {P Q : Poly} (hi : Lens (n + 1) inv) (h : WF n P) (e : inside n inv P = some Q) : WF n Q ∧ ∀ v, K n Q v ↔ K n P v ∧ holds inv v := by
  unfold inside at e
  split at e
  · cases e
  · rename_i I eI
    obtain ⟨wI, kI⟩ := polyhedron_some (E := []) hi (fun x hx => nomatch hx) eI
    obtain ⟨wQ, kQ⟩ := meet_some h wI e
    refine ⟨wQ, fun v => ?_⟩
    rw [kQ, kI]
    constructor
    · rintro ⟨a, b, _, c⟩
      exact ⟨a, fun x hx => c x (by simp [hx])⟩
    · rintro ⟨a, b⟩
      refine ⟨a, a.1, (fun x hx => nomatch hx), fun x hx => ?_⟩
      rcases List.mem_append.mp hx with hx | hx
      · exact b x hx
      · rw [List.mem_singleton] at hx; rw [hx]; exact a.2.2 _ (by simp)
theorem inside_ok {inv : List Vec} {P : Poly} (hi : Lens (n + 1) inv) (h : WF n P) (hv : K n P v) (hh : holds inv v) (z : col v 0 ≠ 0) : ∃ Q, inside n inv P = some Q := by
  have s : Sat [] (inv ++ [horizon n]) v := ⟨(fun x hx => nomatch hx), fun x hx => by
    rcases List.mem_append.mp hx with hx | hx
    · exact hh x hx
    · rw [List.mem_singleton] at hx; rw [hx]; exact hv.2.2 _ (by simp)⟩
  obtain ⟨I, eI⟩ := polyhedron_ok (E := []) hi (fun x hx => nomatch hx) hv.1 s z
  obtain ⟨wI, kI⟩ := polyhedron_some (E := []) hi (fun x hx => nomatch hx) eI
  obtain ⟨R, e⟩ := meet_ok h wI hv ((kI v).mpr ⟨hv.1, s⟩) z
  refine ⟨R, ?_⟩
  unfold inside
  rw [eI]
  exact e
/-- extending, whatever the generators -/
theorem ext_gen {P : Poly} {D L R : List Vec} (h : WF n P) (hD : Dirs n D) (e : ∀ v, K n P v ↔ Gen (n + 1) L R v) (v : Vec) : K n (extended P D) v ↔ Gen (n + 1) L (R ++ D) v := by
  obtain ⟨_, k⟩ := extended_spec h hD
  obtain ⟨_, g, _, _, _⟩ := gen_spec h
  rw [k v]
  constructor
  · intro q
    refine q.mono (fun l hl => ?_) fun r hr => ?_
    · have a := (e l).mp ((g l).mp (.line hl))
      have b := (e (neg l)).mp ((g (neg l)).mp (.nline hl))
      exact ⟨a.sub fun r hr => by simp [hr], b.sub fun r hr => by simp [hr]⟩
    · rw [← List.append_assoc] at hr
      rcases List.mem_append.mp hr with hr | hr
      · exact ((e r).mp ((g r).mp (.ray hr))).sub fun r hr => by simp [hr]
      · exact .ray (by simp [hr])
  · intro q
    have up : ∀ x, Gen (n + 1) (generators P).lines ((generators P).points ++ (generators P).rays) x → Gen (n + 1) (generators P).lines ((generators P).points ++ ((generators P).rays ++ D)) x := fun x hx => hx.sub fun r hr => by
      rw [← List.append_assoc]; exact List.mem_append_left _ hr
    refine q.mono (fun l hl => ?_) fun r hr => ?_
    · exact ⟨up _ ((g l).mpr ((e l).mpr (.line hl))), up _ ((g _).mpr ((e _).mpr (.nline hl)))⟩
    · rcases List.mem_append.mp hr with hr | hr
      · exact up _ ((g r).mpr ((e r).mpr (.ray hr)))
      · exact .ray (by simp [hr])
theorem stretched_some {inv D : List Vec} {P A : Poly} (hi : Lens (n + 1) inv) (hD : Dirs n D) (h : WF n P) (e : stretched n inv P D = some A) :
    ∃ part, inside n inv P = some part ∧ WF n part ∧ (∀ v, K n part v ↔ K n P v ∧ holds inv v) ∧ WF n A ∧ ∀ v, K n A v ↔ K n (extended part D) v ∧ holds inv v := by
  unfold stretched at e
  split at e
  · cases e
  · rename_i part ep
    obtain ⟨wp, kp⟩ := inside_some hi h ep
    obtain ⟨we, _⟩ := extended_spec wp hD
    obtain ⟨wA, kA⟩ := inside_some hi we e
    exact ⟨part, ep, wp, kp, wA, kA⟩
/-- a polyhedron lies in its extension -/
theorem sub_ext {P : Poly} {D : List Vec} (h : WF n P) (hD : Dirs n D) (hv : K n P v) : K n (extended P D) v := by
  obtain ⟨_, g, _, _, _⟩ := gen_spec h
  rw [ext_gen h hD (fun v => (g v).symm)]
  exact ((g v).mpr hv).sub fun r hr => by simp at hr ⊢; rcases hr with h | h <;> simp [h]
theorem ext_add {P : Poly} {D : List Vec} {p q : Vec} (h : WF n P) (hD : Dirs n D) (hp : K n (extended P D) p) (g : Gen (n + 1) [] (p :: D) q) : K n (extended P D) q := by
  obtain ⟨_, k⟩ := extended_spec h hD
  rw [k] at hp ⊢
  refine g.mono (fun l hl => nomatch hl) fun r hr => ?_
  rcases List.mem_cons.mp hr with rfl | hr
  · exact hp
  · exact .ray (by simp [hr])
/-- a point of the region within the invariant, and where a wait leads from it -/
theorem stretched_ok {inv D : List Vec} {P : Poly} {p q : Vec} (hi : Lens (n + 1) inv) (hD : Dirs n D) (h : WF n P) (kp : K n P p) (ip : holds inv p) (zp : col p 0 ≠ 0) (g : Gen (n + 1) [] (p :: D) q) (iq : holds inv q) :
    ∃ A, stretched n inv P D = some A ∧ WF n A ∧ K n A p ∧ K n A q := by
  obtain ⟨part, ep⟩ := inside_ok hi h kp ip zp
  obtain ⟨wp, kpart⟩ := inside_some hi h ep
  have k1 : K n part p := (kpart p).mpr ⟨kp, ip⟩
  have k2 := sub_ext wp hD k1
  obtain ⟨we, _⟩ := extended_spec wp hD
  obtain ⟨A, eA⟩ := inside_ok hi we k2 ip zp
  obtain ⟨wA, kA⟩ := inside_some hi we eA
  refine ⟨A, ?_, wA, (kA p).mpr ⟨k2, ip⟩, (kA q).mpr ⟨ext_add wp hD k2 g, iq⟩⟩
  unfold stretched
  rw [ep]
  exact eA
/-- wait_forward of its own answer changes nothing -/
theorem stretched_fix {inv D : List Vec} {P A : Poly} (hi : Lens (n + 1) inv) (hD : Dirs n D) (h : WF n P) (e : stretched n inv P D = some A) : stretched n inv A D = some A := by
  obtain ⟨part, ep, wp, kp, wA, kA⟩ := stretched_some hi hD h e
  obtain ⟨v, kv, pv⟩ := wA.point
  have iv := ((kA v).mp kv).2
  have zv : col v 0 ≠ 0 := by omega
  obtain ⟨Q, eQ⟩ := inside_ok hi wA kv iv zv
  obtain ⟨wQ, kQ⟩ := inside_some hi wA eQ
  have : Q = A := wQ.unique wA fun v => by
    rw [kQ]
    exact ⟨fun q => q.1, fun q => ⟨q, ((kA v).mp q).2⟩⟩
  subst this
  obtain ⟨we, ke⟩ := extended_spec wA hD
  obtain ⟨A2, e2⟩ := inside_ok hi we (sub_ext wA hD kv) iv zv
  obtain ⟨w2, k2⟩ := inside_some hi we e2
  have back : ∀ v, K n (extended Q D) v → K n (extended part D) v := fun v hv => by
    obtain ⟨_, g, _, _, _⟩ := gen_spec wA
    obtain ⟨_, kpe⟩ := extended_spec wp hD
    rw [ke] at hv
    rw [kpe]
    refine hv.mono (fun l hl => ?_) fun r hr => ?_
    · have a := ((kA l).mp ((g l).mp (.line hl))).1
      have b := ((kA _).mp ((g (neg l)).mp (.nline hl))).1
      exact ⟨(kpe l).mp a, (kpe _).mp b⟩
    · rw [← List.append_assoc] at hr
      rcases List.mem_append.mp hr with hr | hr
      · exact (kpe r).mp ((kA r).mp ((g r).mp (.ray hr))).1
      · exact .ray (by simp [hr])
  have : A2 = Q := w2.unique wA fun v => by
    rw [k2]
    constructor
    · rintro ⟨a, b⟩
      exact (kA v).mpr ⟨back v a, b⟩
    · intro a
      exact ⟨sub_ext wA hD a, ((kA v).mp a).2⟩
  unfold stretched
  rw [eQ]
  simp only
  rw [e2, this]

/-! ### single points -/
theorem point_spec {p : Vec} (hp : p.length = n + 1) (h0 : 0 < col p 0) : WF n (spanned n [p] [] []) ∧ ∀ v, K n (spanned n [p] [] []) v ↔ Gen (n + 1) [] [p] v := by
  have k : GenOk n [] ([p] ++ []) := ⟨fun x hx => (nomatch hx), fun x hx => by simp at hx; rw [hx]; exact hp, fun x hx => (nomatch hx), fun x hx => by simp at hx; rw [hx]; exact Int.le_of_lt h0, p, by simp, h0⟩
  exact ⟨⟨_, _, k, rfl⟩, settled_K k⟩
/-- the points that a point and some directions reach -/
theorem reached {p q : Vec} {D : List Vec} (hp : p.length = n + 1) (h0 : 0 < col p 0) (hD : Dirs n D) : K n (extended (spanned n [p] [] []) D) q ↔ Gen (n + 1) [] (p :: D) q := by
  obtain ⟨w, k⟩ := point_spec hp h0
  exact ext_gen w hD k q
theorem comb_self (a b : Int) (v : Vec) : comb a v b v = smul (a + b) v := by
  refine ext_dot (by simp) fun w _ => ?_
  rw [dot_comb _ _ _ rfl, dot_smul]; grind
/-- a sum of the hull of L, A and of the hull of D -/
theorem gen_split {L A D : List Vec} (hL : Lens n L) (hA : Lens n A) (hD : Lens n D) (g : Gen n L (A ++ D) v) : ∃ (k : Int) (s d : Vec), 0 < k ∧ Gen n L A s ∧ Gen n [] D d ∧ smul k v = comb 1 s 1 d := by
  have small : ∀ s, s.length = n → Gen n L A s → ∃ (k : Int) (s' d : Vec), 0 < k ∧ Gen n L A s' ∧ Gen n [] D d ∧ smul k s = comb 1 s' 1 d := fun s hs k => ⟨1, s, zeros n, by decide, k, .zero, by
    refine ext_dot (by simp [hs]) fun w _ => ?_
    rw [dot_smul, dot_comb _ _ _ (by simp [hs]), dot_zeros]; grind⟩
  have lAD : Lens n (A ++ D) := lens_app hA hD
  induction g with
  | zero => exact small _ (by simp) .zero
  | line h => exact small _ (hL _ h) (.line h)
  | nline h => exact small _ (by rw [neg_length]; exact hL _ h) (.nline h)
  | @ray r h =>
    rcases List.mem_append.mp h with h | h
    · exact small _ (hA _ h) (.ray h)
    · refine ⟨1, zeros n, r, by decide, .zero, .ray h, ?_⟩
      refine ext_dot (by simp [hD r h]) fun w _ => ?_
      rw [dot_smul, dot_comb _ _ _ (by simp [hD r h]), dot_zeros]; grind
  | @comb u v a b ha hb hu hv i j =>
    obtain ⟨k1, s1, d1, h1, gs1, gd1, e1⟩ := i
    obtain ⟨k2, s2, d2, h2, gs2, gd2, e2⟩ := j
    have lu := hu.len hL lAD
    have lv := hv.len hL lAD
    have ls1 := gs1.len hL hA
    have ls2 := gs2.len hL hA
    have ld1 := gd1.len (L := []) (fun x hx => nomatch hx) hD
    have ld2 := gd2.len (L := []) (fun x hx => nomatch hx) hD
    refine ⟨k1 * k2, comb (a * k2) s1 (b * k1) s2, comb (a * k2) d1 (b * k1) d2, Int.mul_pos h1 h2, .comb (Int.mul_nonneg ha (Int.le_of_lt h2)) (Int.mul_nonneg hb (Int.le_of_lt h1)) gs1 gs2,
      .comb (Int.mul_nonneg ha (Int.le_of_lt h2)) (Int.mul_nonneg hb (Int.le_of_lt h1)) gd1 gd2, ?_⟩
    refine ext_dot (by simp [lu, lv, ls1, ls2, ld1, ld2]) fun w _ => ?_
    have q1 := congrArg (dot w) e1
    have q2 := congrArg (dot w) e2
    rw [dot_smul, dot_comb _ _ _ (by simp [ls1, ld1])] at q1
    rw [dot_smul, dot_comb _ _ _ (by simp [ls2, ld2])] at q2
    rw [dot_smul, dot_comb _ _ _ (by simp [lu, lv]), dot_comb _ _ _ (by simp [ls1, ls2, ld1, ld2]), dot_comb _ _ _ (by simp [ls1, ls2]), dot_comb _ _ _ (by simp [ld1, ld2])]
    exact alg8 q1 q2
  | @div k v hk hv h i =>
    obtain ⟨k1, s1, d1, h1, gs1, gd1, e1⟩ := i
    exact ⟨k1 * k, s1, d1, Int.mul_pos h1 hk, gs1, gd1, by rw [← smul_smul]; exact e1⟩
where
  alg8 {a b k1 k2 x y s1 s2 d1 d2 : Int} (q1 : k1 * x = 1 * s1 + 1 * d1) (q2 : k2 * y = 1 * s2 + 1 * d2) : k1 * k2 * (a * x + b * y) = 1 * (a * k2 * s1 + b * k1 * s2) + 1 * (a * k2 * d1 + b * k1 * d2) := by grind
theorem negs_gen {D : List Vec} (hD : Lens n D) (g : Gen n [] (negs D) v) : Gen n [] D (neg v) := by
  have hN : Lens n (negs D) := fun x hx => by
    obtain ⟨d, hd, rfl⟩ := List.mem_map.mp hx
    rw [neg_length]; exact hD d hd
  induction g with
  | zero => rw [neg_zeros]; exact .zero
  | line h => nomatch h
  | nline h => nomatch h
  | ray h =>
    obtain ⟨d, hd, rfl⟩ := List.mem_map.mp h
    rw [neg_neg]; exact .ray hd
  | comb ha hb _ _ i j => rw [neg_comb]; exact .comb ha hb i j
  | div hk hl _ i => exact .div hk (by simpa using hl) (by rw [← neg_smul']; exact i)
theorem negs_negs (D : List Vec) : negs (negs D) = D := by
  unfold negs
  rw [List.map_map]
  conv => rhs; rw [← List.map_id D]
  exact List.map_congr_left fun x _ => neg_neg x
theorem negs_dirs {D : List Vec} (h : Dirs n D) : Dirs n (negs D) := fun x hx => by
  obtain ⟨d, hd, rfl⟩ := List.mem_map.mp hx
  obtain ⟨a, b⟩ := h d hd
  exact ⟨by rw [neg_length]; exact a, by rw [col_neg a (by omega), b]; rfl⟩
/-- q lies ahead of p: p lies behind q -/
theorem turn_round {p q : Vec} {D : List Vec} (hp : p.length = n + 1) (hq : q.length = n + 1) (hD : Dirs n D) (h0 : 0 < col q 0) (g : Gen (n + 1) [] (p :: D) q) : Gen (n + 1) [] (q :: negs D) p := by
  have lD : Lens (n + 1) D := fun x hx => (hD x hx).1
  have lp : Lens (n + 1) [p] := fun x hx => by rw [List.mem_singleton] at hx; rw [hx]; exact hp
  obtain ⟨k, s, d, hk, gs, gd, e⟩ := gen_split (L := []) (A := [p]) (D := D) (fun x hx => nomatch hx) lp lD g
  have ls := gs.len (L := []) (fun x hx => nomatch hx) lp
  have ld := gd.len (L := []) (fun x hx => nomatch hx) lD
  obtain ⟨k2, a, hk2, ha, g2⟩ := gs.one (L := []) (fun x hx => nomatch hx) hp
  have z : comb k2 s (-a) p = zeros (n + 1) := by
    have := g2.dot_zero (c := comb k2 s (-a) p) (L := []) (R := []) (fun x hx => nomatch hx) (fun x hx => nomatch hx) (fun x hx => nomatch hx) (fun x hx => nomatch hx)
    rw [zero_of_dot_self _ this, comb_len ls hp]
  -- k2 * k * q = a * p + k2 * d
  have eq : ∀ w, k2 * (k * dot w q) = a * dot w p + k2 * dot w d := fun w => by
    have q1 := congrArg (dot w) e
    have q2 := congrArg (dot w) z
    rw [dot_smul, dot_comb _ _ _ (by simp [ls, ld])] at q1
    rw [dot_comb _ _ _ (by simp [ls, hp]), dot_zeros] at q2
    rw [q1]; grind
  have d0 : col d 0 = 0 := by
    rw [← col_unit ld (by omega)]
    exact gd.dot_zero (L := []) (fun x hx => nomatch hx) lD (fun x hx => nomatch hx) fun x hx => by rw [col_unit (hD x hx).1 (by omega)]; exact (hD x hx).2
  have ha' : 0 < a := by
    have := eq (unit (n + 1) 0)
    rw [col_unit hq (by omega), col_unit hp (by omega), col_unit ld (by omega), d0] at this
    rcases Int.lt_or_eq_of_le ha with z2 | z2
    · exact z2
    · exfalso
      rw [← z2] at this
      have h2 : 0 < k2 * (k * col q 0) := Int.mul_pos hk2 (Int.mul_pos hk h0)
      simp at this
      omega
  refine .div ha' hp ?_
  have e3 : smul a p = comb (k2 * k) q k2 (neg d) := by
    refine ext_dot (by simp [hp, hq, ld]) fun w _ => ?_
    rw [dot_smul, dot_comb _ _ _ (by simp [hq, ld]), dot_neg]
    have := eq w
    grind
  rw [e3]
  refine .comb (Int.le_of_lt (Int.mul_pos hk2 hk)) (Int.le_of_lt hk2) (.ray (by simp)) ?_
  have := negs_gen (D := negs D) (fun x hx => ((negs_dirs hD) x hx).1) (v := d) (by rw [negs_negs]; exact gd)
  exact this.sub fun r hr => by simp [hr]
/-- what is ahead in the answer came from a point of the region -/
theorem stretched_back {inv D : List Vec} {P A : Poly} {q : Vec} (hi : Lens (n + 1) inv) (hD : Dirs n D) (h : WF n P) (e : stretched n inv P D = some A) (kq : K n A q) (h0 : 0 < col q 0) :
    holds inv q ∧ ∃ W C, stretched n inv (spanned n [q] [] []) (negs D) = some W ∧ WF n W ∧ meet P W = some C ∧ WF n C ∧ ∀ p, K n C p → 0 < col p 0 → K n P p ∧ holds inv p ∧ Gen (n + 1) [] (p :: D) q := by
  obtain ⟨part, ep, wp, kp, wA, kA⟩ := stretched_some hi hD h e
  obtain ⟨k1, iq⟩ := (kA q).mp kq
  have lq := kq.1
  have lD : Lens (n + 1) D := fun x hx => (hD x hx).1
  obtain ⟨G, gg, _, _, _⟩ := gen_spec wp
  rw [ext_gen wp hD (fun v => (gg v).symm)] at k1
  obtain ⟨k, s, d, hk, gs, gd, es⟩ := gen_split G.lensL G.lensR lD k1
  have ls := gs.len G.lensL G.lensR
  have ld := gd.len (L := []) (fun x hx => nomatch hx) lD
  have d0 : col d 0 = 0 := by
    rw [← col_unit ld (by omega)]
    exact gd.dot_zero (L := []) (fun x hx => nomatch hx) lD (fun x hx => nomatch hx) fun x hx => by rw [col_unit (hD x hx).1 (by omega)]; exact (hD x hx).2
  have s0 : 0 < col s 0 := by
    have := congrArg (fun v => col v 0) es
    have this : col (smul k q) 0 = col (comb 1 s 1 d) 0 := this
    rw [col_smul lq (by omega), col_comb ls ld (by omega), d0] at this
    have := Int.mul_pos hk h0
    omega
  obtain ⟨ks, is⟩ := (kp s).mp ((gg s).mp gs)
  -- s lies behind q
  have gsq : Gen (n + 1) [] (q :: negs D) s := by
    have e2 : s = comb k q 1 (neg d) := by
      refine ext_dot (by simp [ls, lq, ld]) fun w _ => ?_
      rw [dot_comb _ _ _ (by simp [lq, ld]), dot_neg]
      have := congrArg (dot w) es
      rw [dot_smul, dot_comb _ _ _ (by simp [ls, ld])] at this
      rw [this]; grind
    rw [e2]
    refine .comb (Int.le_of_lt hk) (by decide) (.ray (by simp)) ?_
    exact (negs_gen (D := negs D) (fun x hx => ((negs_dirs hD) x hx).1) (v := d) (by rw [negs_negs]; exact gd)).sub fun r hr => by simp [hr]
  obtain ⟨wq, kqq⟩ := point_spec lq h0
  have hN := negs_dirs hD
  obtain ⟨W, eW, wW, _, kWs⟩ := stretched_ok hi hN wq ((kqq q).mpr (.ray (by simp))) iq (by omega) gsq is
  obtain ⟨C, eC⟩ := meet_ok h wW ks kWs (by omega)
  obtain ⟨wC, kC⟩ := meet_some h wW eC
  refine ⟨iq, W, C, eW, wW, eC, wC, fun p hp p0 => ?_⟩
  obtain ⟨kpP, kpW⟩ := (kC p).mp hp
  obtain ⟨part2, _, wp2, kp2, _, kW⟩ := stretched_some hi hN wq eW
  obtain ⟨k3, ip⟩ := (kW p).mp kpW
  refine ⟨kpP, ip, ?_⟩
  obtain ⟨G2, gg2, _, _, _⟩ := gen_spec wp2
  -- p lies behind q
  have gpq : Gen (n + 1) [] (q :: negs D) p := by
    rw [ext_gen wp2 hN (fun v => (gg2 v).symm)] at k3
    refine k3.mono (fun l hl => ?_) fun r hr => ?_
    · have a := (kqq l).mp (((kp2 l).mp ((gg2 l).mp (.line hl))).1)
      have b := (kqq _).mp (((kp2 _).mp ((gg2 _).mp (.nline hl))).1)
      exact ⟨a.sub fun r hr => by simp at hr ⊢; exact .inl hr, b.sub fun r hr => by simp at hr ⊢; exact .inl hr⟩
    · rcases List.mem_append.mp hr with hr | hr
      · exact ((kqq r).mp (((kp2 r).mp ((gg2 r).mp (.ray hr))).1)).sub fun r hr => by simp at hr ⊢; exact .inl hr
      · exact .ray (by simp [hr])
  have := turn_round lq kpP.1 hN p0 gpq
  rwa [negs_negs] at this
end FM
end
section
set_option linter.all false
/-! Two and three columns: a line fixed by functionals is small; three vectors of a plane. -/
namespace FM
def Bnd (M : Nat) (v : Vec) : Prop := ∀ x ∈ v, x.natAbs ≤ M
theorem Bnd.mono {M N : Nat} {v : Vec} (h : Bnd M v) (k : M ≤ N) : Bnd N v := fun x hx => Nat.le_trans (h x hx) k
theorem Bnd.cons {M : Nat} {x : Int} {v : Vec} : Bnd M (x :: v) ↔ x.natAbs ≤ M ∧ Bnd M v := by unfold Bnd; simp
theorem Bnd.nil {M : Nat} : Bnd M [] := fun x hx => nomatch hx
theorem Bnd.neg {M : Nat} {v : Vec} (h : Bnd M v) : Bnd M (neg v) := fun x hx => by
  obtain ⟨y, hy, rfl⟩ := List.mem_map.mp hx
  rw [Int.natAbs_neg]; exact h y hy
theorem Bnd.primitive {M : Nat} {v : Vec} (h : Bnd M v) : Bnd M (primitive v) := by
  unfold FM.primitive
  split
  · exact h
  · intro x hx
    obtain ⟨y, hy, rfl⟩ := List.mem_map.mp hx
    obtain ⟨k, hk⟩ := gcdL_dvd v y hy
    have h0 : (gcdL v : Int) ≠ 0 := by omega
    rw [hk, Int.mul_ediv_cancel_left _ h0]
    have := h y hy
    rw [hk, Int.natAbs_mul, Int.natAbs_natCast] at this
    have h1 : 1 * k.natAbs ≤ gcdL v * k.natAbs := Nat.mul_le_mul_right _ (by omega)
    omega
theorem natAbs_mul_le {x y : Int} {A B : Nat} (hx : x.natAbs ≤ A) (hy : y.natAbs ≤ B) : (x * y).natAbs ≤ A * B := by
  rw [Int.natAbs_mul]; exact Nat.mul_le_mul hx hy
theorem natAbs_add_le' {x y : Int} {A B : Nat} (hx : x.natAbs ≤ A) (hy : y.natAbs ≤ B) : (x + y).natAbs ≤ A + B := by omega
theorem Bnd.comb {A B : Nat} {a b : Int} {p q : Nat} : ∀ {u v : Vec}, Bnd A u → Bnd B v → a.natAbs ≤ p → b.natAbs ≤ q → Bnd (p * A + q * B) (comb a u b v)
  | [], _, _, _, _, _ => by simp [Bnd.nil]
  | _ :: _, [], _, _, _, _ => by simp [FM.comb, Bnd.nil]
  | x :: u, y :: v, hu, hv, ha, hb => by
    rw [comb_cons, Bnd.cons]
    rw [Bnd.cons] at hu hv
    exact ⟨natAbs_add_le' (natAbs_mul_le ha hu.1) (natAbs_mul_le hb hv.1), Bnd.comb hu.2 hv.2 ha hb⟩
theorem dot_bound {A B : Nat} : ∀ {u v : Vec}, Bnd A u → Bnd B v → (dot u v).natAbs ≤ u.length * (A * B)
  | [], _, _, _ => by simp
  | _ :: _, [], _, _ => by simp
  | x :: u, y :: v, hu, hv => by
    rw [Bnd.cons] at hu hv
    rw [dot_cons, List.length_cons, Nat.succ_mul]
    have h1 := natAbs_mul_le hu.1 hv.1
    have h2 := dot_bound hu.2 hv.2
    omega
theorem dot_bound3 {A B : Nat} {u v : Vec} (hu : Bnd A u) (hv : Bnd B v) (h : u.length ≤ 3) : (dot u v).natAbs ≤ 3 * (A * B) :=
  Nat.le_trans (dot_bound hu hv) (Nat.mul_le_mul_right _ h)

theorem col_get {v : Vec} {i : Nat} (h : i < v.length) : col v i = v[i] := by
  unfold col
  rw [List.getD_eq_getElem?_getD, List.getElem?_eq_getElem h]; rfl
theorem dvd_of_parallel {v c : Vec} {i : Nat} (hi : i < v.length) (g : gcdL v = 1) (h : ∀ j, j < v.length → col v i * col c j = col v j * col c i) : col v i ∣ col c i := by
  have : (col v i).natAbs ∣ gcdL (smul (col c i) v) := dvd_gcdL _ fun x hx => by
    obtain ⟨y, hy, rfl⟩ := List.mem_map.mp hx
    obtain ⟨j, hj, rfl⟩ := List.getElem_of_mem hy
    have e : v[j] = col v j := by unfold col; rw [List.getD_eq_getElem?_getD, List.getElem?_eq_getElem hj]; rfl
    rw [e, Int.mul_comm, ← h j hj]
    exact Int.dvd_trans Int.natAbs_dvd_self (Int.dvd_mul_right _ _)
  rw [gcdL_smul, g, Nat.mul_one] at this
  exact Int.natAbs_dvd_natAbs.mp this
theorem small_of_parallel {v c : Vec} {i : Nat} {M : Nat} (hi : i < v.length) (g : gcdL v = 1) (h : ∀ i j, i < v.length → j < v.length → col v i * col c j = col v j * col c i) (nz : ∃ j, j < v.length ∧ col c j ≠ 0) (b : (col c i).natAbs ≤ M) : (col v i).natAbs ≤ M := by
  have d := dvd_of_parallel hi g fun j hj => h i j hi hj
  by_cases z : col c i = 0
  · obtain ⟨j, hj, k⟩ := nz
    have := h i j hi hj
    rw [z, Int.mul_zero] at this
    rcases Int.mul_eq_zero.mp this with q | q
    · rw [q]; simp
    · exact absurd q k
  · obtain ⟨k, hk⟩ := d
    rw [hk, Int.natAbs_mul] at b
    have k0 : k.natAbs ≠ 0 := fun q => z (by rw [hk]; have : k = 0 := by omega
                                             rw [this]; simp)
    have : (col v i).natAbs * 1 ≤ (col v i).natAbs * k.natAbs := Nat.mul_le_mul_left _ (by omega)
    omega
/-- the functionals fix the line of v -/
def Fixes (n : Nat) (U : List Vec) (v : Vec) : Prop := (∀ u ∈ U, dot u v = 0) ∧ ∀ w, w.length = n → (∀ u ∈ U, dot u w = 0) → ∃ a b : Int, 0 < a ∧ smul a w = smul b v
theorem len3 {v : Vec} (h : v.length = 3) : ∃ a b c, v = [a, b, c] := by
  match v, h with
  | [a, b, c], _ => exact ⟨a, b, c, rfl⟩
theorem len2 {v : Vec} (h : v.length = 2) : ∃ a b, v = [a, b] := by
  match v, h with
  | [a, b], _ => exact ⟨a, b, rfl⟩
theorem d3 (a b c x y z : Int) : dot [a, b, c] [x, y, z] = a * x + b * y + c * z := by simp [dot]; grind
theorem d2 (a b x y : Int) : dot [a, b] [x, y] = a * x + b * y := by simp [dot]
def cross : Vec → Vec → Vec
  | [a, b, c], [x, y, z] => [b * z - c * y, c * x - a * z, a * y - b * x]
  | _, _ => []
theorem sumsq {a b c : Int} (h : a * a + b * b + c * c = 0) : a = 0 ∧ b = 0 ∧ c = 0 := by
  have h1 := sq_nonneg a
  have h2 := sq_nonneg b
  have h3 := sq_nonneg c
  have sq0 : ∀ x : Int, x * x = 0 → x = 0 := fun x q => by rcases Int.mul_eq_zero.mp q with q | q <;> exact q
  exact ⟨sq0 a (by omega), sq0 b (by omega), sq0 c (by omega)⟩
theorem mulnz {x y : Int} (hx : x ≠ 0) (h : x * y = 0) : y = 0 := by
  rcases Int.mul_eq_zero.mp h with q | q
  · exact absurd q hx
  · exact q
/-- in three columns some two of the functionals are not parallel -/
theorem fixes_pair3 {U : List Vec} {v : Vec} (hU : Lens 3 U) (hv : v.length = 3) (g : gcdL v = 1) (h : Fixes 3 U v) : ∃ u ∈ U, ∃ w ∈ U, cross u w ≠ [0, 0, 0] := by
  refine Classical.byContradiction fun no => ?_
  obtain ⟨v0, v1, v2, rfl⟩ := len3 hv
  have vnz : ¬ (v0 = 0 ∧ v1 = 0 ∧ v2 = 0) := fun ⟨a, b, c⟩ => by
    rw [a, b, c] at g
    exact absurd g (by decide)
  by_cases hz : ∀ u ∈ U, u = [0, 0, 0]
  · have any : ∀ w, w.length = 3 → ∃ a b : Int, 0 < a ∧ smul a w = smul b [v0, v1, v2] := fun w hw => h.2 w hw fun u hu => by
      obtain ⟨x, y, z, rfl⟩ := len3 hw
      rw [hz u hu, d3]; simp
    obtain ⟨a, b, ha, e⟩ := any [1, 0, 0] rfl
    obtain ⟨c, d, hc, e2⟩ := any [0, 1, 0] rfl
    simp only [smul, List.map_cons, List.map_nil, List.cons.injEq, and_true] at e e2
    have hb : b ≠ 0 := fun q => by rw [q] at e; omega
    have hd : d ≠ 0 := fun q => by rw [q] at e2; omega
    have z1 : v1 = 0 := mulnz hb (by omega)
    have z2 : v2 = 0 := mulnz hb (by omega)
    have z0 : v0 = 0 := mulnz hd (by omega)
    exact vnz ⟨z0, z1, z2⟩
  · obtain ⟨u, hu, unz⟩ : ∃ u, u ∈ U ∧ u ≠ [0, 0, 0] := by
      refine Classical.byContradiction fun k => hz fun u hu => ?_
      exact Classical.byContradiction fun q => k ⟨u, hu, q⟩
    obtain ⟨p, q, r, rfl⟩ := len3 (hU u hu)
    have uv := h.1 _ hu
    rw [d3] at uv
    obtain ⟨a, b, ha, e⟩ := h.2 (cross [p, q, r] [v0, v1, v2]) rfl fun w hw => by
      obtain ⟨x, y, z, rfl⟩ := len3 (hU w hw)
      have k : cross [x, y, z] [p, q, r] = [0, 0, 0] := Classical.byContradiction fun k => no ⟨_, hw, _, hu, k⟩
      simp only [cross, List.cons.injEq, and_true] at k
      obtain ⟨k1, k2, k3⟩ := k
      show dot [x, y, z] [q * v2 - r * v1, r * v0 - p * v2, p * v1 - q * v0] = 0
      rw [d3]
      have : x * (q * v2 - r * v1) + y * (r * v0 - p * v2) + z * (p * v1 - q * v0) = (y * r - z * q) * v0 + (z * p - x * r) * v1 + (x * q - y * p) * v2 := by grind
      rw [this, k1, k2, k3]; simp
    simp only [cross, smul, List.map_cons, List.map_nil, List.cons.injEq, and_true] at e
    obtain ⟨e1, e2, e3⟩ := e
    have hb : b * (v0 * v0 + v1 * v1 + v2 * v2) = 0 := by
      have : b * (v0 * v0 + v1 * v1 + v2 * v2) = v0 * (b * v0) + v1 * (b * v1) + v2 * (b * v2) := by grind
      rw [this, ← e1, ← e2, ← e3]; grind
    have b0 : b = 0 := Classical.byContradiction fun nb => by
      have := sumsq (mulnz nb hb)
      exact vnz this
    rw [b0] at e1 e2 e3
    have c1 : q * v2 - r * v1 = 0 := pos_of_mul ha (by rw [e1]; simp)
    have c2 : r * v0 - p * v2 = 0 := pos_of_mul ha (by rw [e2]; simp)
    have c3 : p * v1 - q * v0 = 0 := pos_of_mul ha (by rw [e3]; simp)
    have big : (p * p + q * q + r * r) * (v0 * v0 + v1 * v1 + v2 * v2) = (q * v2 - r * v1) * (q * v2 - r * v1) + (r * v0 - p * v2) * (r * v0 - p * v2) + (p * v1 - q * v0) * (p * v1 - q * v0) + (p * v0 + q * v1 + r * v2) * (p * v0 + q * v1 + r * v2) := by grind
    rw [c1, c2, c3, uv] at big
    have : (p * p + q * q + r * r) = 0 ∨ (v0 * v0 + v1 * v1 + v2 * v2) = 0 := Int.mul_eq_zero.mp (by rw [big]; simp)
    rcases this with k | k
    · obtain ⟨a1, a2, a3⟩ := sumsq k
      exact unz (by rw [a1, a2, a3])
    · exact vnz (sumsq k)
theorem fixes_small3 {U : List Vec} {v : Vec} {M : Nat} (hU : Lens 3 U) (hB : ∀ u ∈ U, Bnd M u) (hv : v.length = 3) (g : gcdL v = 1) (h : Fixes 3 U v) : Bnd (2 * (M * M)) v := by
  obtain ⟨u, hu, w, hw, nz⟩ := fixes_pair3 hU hv g h
  obtain ⟨v0, v1, v2, rfl⟩ := len3 hv
  obtain ⟨p, q, r, rfl⟩ := len3 (hU u hu)
  obtain ⟨x, y, z, rfl⟩ := len3 (hU w hw)
  have uv := h.1 _ hu
  have wv := h.1 _ hw
  rw [d3] at uv wv
  have bu := hB _ hu
  have bw := hB _ hw
  simp only [Bnd.cons] at bu bw
  have two : ∀ {a b c d : Int}, a.natAbs ≤ M → b.natAbs ≤ M → c.natAbs ≤ M → d.natAbs ≤ M → (a * b - c * d).natAbs ≤ 2 * (M * M) := fun {a b c d} h1 h2 h3 h4 => by
    have k1 := natAbs_mul_le h1 h2
    have k2 := natAbs_mul_le h3 h4
    omega
  have par : ∀ i j, i < [v0, v1, v2].length → j < [v0, v1, v2].length → col [v0, v1, v2] i * col [q * z - r * y, r * x - p * z, p * y - q * x] j = col [v0, v1, v2] j * col [q * z - r * y, r * x - p * z, p * y - q * x] i := by
    have e01 : v0 * (r * x - p * z) = v1 * (q * z - r * y) := by grind
    have e02 : v0 * (p * y - q * x) = v2 * (q * z - r * y) := by grind
    have e12 : v1 * (p * y - q * x) = v2 * (r * x - p * z) := by grind
    intro i j hi hj
    match i, j, hi, hj with
    | 0, 0, _, _ => rfl
    | 0, 1, _, _ => exact e01
    | 0, 2, _, _ => exact e02
    | 1, 0, _, _ => exact e01.symm
    | 1, 1, _, _ => rfl
    | 1, 2, _, _ => exact e12
    | 2, 0, _, _ => exact e02.symm
    | 2, 1, _, _ => exact e12.symm
    | 2, 2, _, _ => rfl
    | _ + 3, _, k, _ => simp at k; omega
    | _, _ + 3, _, k => simp at k; omega
  have cnz : ∃ j, j < [v0, v1, v2].length ∧ col [q * z - r * y, r * x - p * z, p * y - q * x] j ≠ 0 := by
    refine Classical.byContradiction fun no => nz ?_
    have z0 : q * z - r * y = 0 := Classical.byContradiction fun k => no ⟨0, by simp, k⟩
    have z1 : r * x - p * z = 0 := Classical.byContradiction fun k => no ⟨1, by simp, k⟩
    have z2 : p * y - q * x = 0 := Classical.byContradiction fun k => no ⟨2, by simp, k⟩
    simp only [cross, z0, z1, z2]
  have fin := fun i (hi : i < [v0, v1, v2].length) b => small_of_parallel (v := [v0, v1, v2]) (c := [q * z - r * y, r * x - p * z, p * y - q * x]) (i := i) (M := 2 * (M * M)) hi g par cnz b
  simp only [Bnd.cons]
  exact ⟨fin 0 (by simp) (two bu.2.1 bw.2.2.1 bu.2.2.1 bw.2.1), fin 1 (by simp) (two bu.2.2.1 bw.1 bu.1 bw.2.2.1), fin 2 (by simp) (two bu.1 bw.2.1 bu.2.1 bw.1), Bnd.nil⟩
theorem fixes_small2 {U : List Vec} {v : Vec} {M : Nat} (hU : Lens 2 U) (hB : ∀ u ∈ U, Bnd M u) (hv : v.length = 2) (g : gcdL v = 1) (h : Fixes 2 U v) : Bnd M v := by
  obtain ⟨v0, v1, rfl⟩ := len2 hv
  have vnz : ¬ (v0 = 0 ∧ v1 = 0) := fun ⟨a, b⟩ => by
    rw [a, b] at g
    exact absurd g (by decide)
  obtain ⟨u, hu, unz⟩ : ∃ u, u ∈ U ∧ u ≠ [0, 0] := by
    refine Classical.byContradiction fun k => ?_
    have hz : ∀ u ∈ U, u = [0, 0] := fun u hu => Classical.byContradiction fun q => k ⟨u, hu, q⟩
    obtain ⟨a, b, ha, e⟩ := h.2 [-v1, v0] rfl fun u hu => by rw [hz u hu, d2]; simp
    simp only [smul, List.map_cons, List.map_nil, List.cons.injEq, and_true] at e
    obtain ⟨e1, e2⟩ := e
    have : a * (v0 * v0 + v1 * v1 + 0 * 0) = 0 := by
      have : a * (v0 * v0 + v1 * v1 + 0 * 0) = v0 * (a * v0) - v1 * (a * -v1) := by grind
      rw [this, e1, e2]; grind
    have := sumsq (pos_of_mul ha this)
    exact vnz ⟨this.1, this.2.1⟩
  obtain ⟨p, q, rfl⟩ := len2 (hU u hu)
  have uv := h.1 _ hu
  rw [d2] at uv
  have bu := hB _ hu
  simp only [Bnd.cons] at bu
  have par : ∀ i j, i < [v0, v1].length → j < [v0, v1].length → col [v0, v1] i * col [-q, p] j = col [v0, v1] j * col [-q, p] i := by
    have e01 : v0 * p = v1 * -q := by grind
    intro i j hi hj
    match i, j, hi, hj with
    | 0, 0, _, _ => rfl
    | 0, 1, _, _ => exact e01
    | 1, 0, _, _ => exact e01.symm
    | 1, 1, _, _ => rfl
    | _ + 2, _, k, _ => simp at k; omega
    | _, _ + 2, _, k => simp at k; omega
  have cnz : ∃ j, j < [v0, v1].length ∧ col [-q, p] j ≠ 0 := by
    refine Classical.byContradiction fun no => unz ?_
    have z0 : -q = 0 := Classical.byContradiction fun k => no ⟨0, by simp, k⟩
    have z1 : p = 0 := Classical.byContradiction fun k => no ⟨1, by simp, k⟩
    have : q = 0 := by omega
    rw [this, z1]
  have fin := fun i (hi : i < [v0, v1].length) b => small_of_parallel (v := [v0, v1]) (c := [-q, p]) (i := i) (M := M) hi g par cnz b
  simp only [Bnd.cons]
  exact ⟨fin 0 (by simp) (by show (-q).natAbs ≤ M; rw [Int.natAbs_neg]; exact bu.2.1), fin 1 (by simp) (by exact bu.1), Bnd.nil⟩
theorem fixes_small {n : Nat} {U : List Vec} {v : Vec} {M : Nat} (hn : n = 2 ∨ n = 3) (h1 : 1 ≤ M) (hU : Lens n U) (hB : ∀ u ∈ U, Bnd M u) (hv : v.length = n) (g : gcdL v = 1) (h : Fixes n U v) : Bnd (2 * (M * M)) v := by
  rcases hn with rfl | rfl
  · exact (fixes_small2 hU hB hv g h).mono (by
      have : M * 1 ≤ M * M := Nat.mul_le_mul_left _ h1
      omega)
  · exact fixes_small3 hU hB hv g h

/-! ### three vectors of a plane -/
theorem dep2 {x y : Vec} (hx : x.length = n) (hy : y.length = n) (h : ∀ i j, i < n → j < n → col x i * col y j = col x j * col y i) (z : ∃ j, j < n ∧ col y j ≠ 0) : ∃ a b : Int, a ≠ 0 ∧ ∀ w, a * dot w x + b * dot w y = 0 := by
  obtain ⟨j, hj, nz⟩ := z
  refine ⟨col y j, -col x j, nz, ?_⟩
  -- y_j x - x_j y = 0
  have e : comb (col y j) x (-col x j) y = zeros n := by
    have lc : (comb (col y j) x (-col x j) y).length = n := comb_len hx hy
    have allz : ∀ i, i < n → col (comb (col y j) x (-col x j) y) i = 0 := fun i hi => by
      rw [col_comb hx hy hi]
      have := h i j hi hj
      grind
    refine List.ext_getElem (by rw [lc, zeros_length]) fun i h1 h2 => ?_
    have q := allz i (by omega)
    rw [col_get h1] at q
    rw [q]; simp [zeros]
  intro w
  have := congrArg (dot w) e
  rw [dot_comb _ _ _ (hx.trans hy.symm), dot_zeros] at this
  exact this
theorem dep3 {c x y z : Vec} (hc : c.length = 3) (hx : x.length = 3) (hy : y.length = 3) (hz : z.length = 3) (cx : dot c x = 0) (cy : dot c y = 0) (cz : dot c z = 0) (nz : ∃ b, dot c b ≠ 0) (ynz : ∃ p, dot p y ≠ 0) :
    ∃ a b d : Int, ¬ (a = 0 ∧ b = 0 ∧ d = 0) ∧ ∀ w, w.length = 3 → a * dot w x + b * dot w y + d * dot w z = 0 := by
  obtain ⟨c0, c1, c2, rfl⟩ := len3 hc
  obtain ⟨x0, x1, x2, rfl⟩ := len3 hx
  obtain ⟨y0, y1, y2, rfl⟩ := len3 hy
  obtain ⟨z0, z1, z2, rfl⟩ := len3 hz
  rw [d3] at cx cy cz
  have cnz : ¬ (c0 = 0 ∧ c1 = 0 ∧ c2 = 0) := fun ⟨a, b, d⟩ => by
    obtain ⟨w, k⟩ := nz
    refine k ?_
    rw [a, b, d]
    have : ([0, 0, 0] : Vec) = zeros 3 := rfl
    rw [this, dot_comm, dot_zeros]
  have ynz' : ¬ (y0 = 0 ∧ y1 = 0 ∧ y2 = 0) := fun ⟨a, b, d⟩ => by
    obtain ⟨w, k⟩ := ynz
    refine k ?_
    rw [a, b, d]
    have : ([0, 0, 0] : Vec) = zeros 3 := rfl
    rw [this, dot_zeros]
  -- the three coefficients
  let A := c0 * (y1 * z2 - y2 * z1) + c1 * (y2 * z0 - y0 * z2) + c2 * (y0 * z1 - y1 * z0)
  let B := c0 * (z1 * x2 - z2 * x1) + c1 * (z2 * x0 - z0 * x2) + c2 * (z0 * x1 - z1 * x0)
  let D := c0 * (x1 * y2 - x2 * y1) + c1 * (x2 * y0 - x0 * y2) + c2 * (x0 * y1 - x1 * y0)
  let T := x0 * (y1 * z2 - y2 * z1) + x1 * (y2 * z0 - y0 * z2) + x2 * (y0 * z1 - y1 * z0)
  have hT : T = 0 := by
    have e0 : T * c0 = (c0 * x0 + c1 * x1 + c2 * x2) * (y1 * z2 - y2 * z1) + (c0 * y0 + c1 * y1 + c2 * y2) * (z1 * x2 - z2 * x1) + (c0 * z0 + c1 * z1 + c2 * z2) * (x1 * y2 - x2 * y1) := by simp only [T]; grind
    have e1 : T * c1 = (c0 * x0 + c1 * x1 + c2 * x2) * (y2 * z0 - y0 * z2) + (c0 * y0 + c1 * y1 + c2 * y2) * (z2 * x0 - z0 * x2) + (c0 * z0 + c1 * z1 + c2 * z2) * (x2 * y0 - x0 * y2) := by simp only [T]; grind
    have e2 : T * c2 = (c0 * x0 + c1 * x1 + c2 * x2) * (y0 * z1 - y1 * z0) + (c0 * y0 + c1 * y1 + c2 * y2) * (z0 * x1 - z1 * x0) + (c0 * z0 + c1 * z1 + c2 * z2) * (x0 * y1 - x1 * y0) := by simp only [T]; grind
    rw [cx, cy, cz] at e0 e1 e2
    refine Classical.byContradiction fun k => cnz ⟨mulnz k (by rw [e0]; simp), mulnz k (by rw [e1]; simp), mulnz k (by rw [e2]; simp)⟩
  have rel : ∀ w, w.length = 3 → A * dot w [x0, x1, x2] + B * dot w [y0, y1, y2] + D * dot w [z0, z1, z2] = 0 := fun w hw => by
    obtain ⟨w0, w1, w2, rfl⟩ := len3 hw
    rw [d3, d3, d3]
    have : A * (w0 * x0 + w1 * x1 + w2 * x2) + B * (w0 * y0 + w1 * y1 + w2 * y2) + D * (w0 * z0 + w1 * z1 + w2 * z2) = T * (w0 * c0 + w1 * c1 + w2 * c2) := by simp only [A, B, D, T]; grind
    rw [this, hT]; simp
  by_cases hABD : A = 0 ∧ B = 0 ∧ D = 0
  · -- x and y are parallel
    have hD : D = 0 := hABD.2.2
    have k0 : c0 * (c0 * c0 + c1 * c1 + c2 * c2) = c0 * (c0 * c0 + c1 * c1 + c2 * c2) := rfl
    have p0 : (x1 * y2 - x2 * y1) * (c0 * c0 + c1 * c1 + c2 * c2) = c0 * D := by simp only [D]; grind
    have p1 : (x2 * y0 - x0 * y2) * (c0 * c0 + c1 * c1 + c2 * c2) = c1 * D := by simp only [D]; grind
    have p2 : (x0 * y1 - x1 * y0) * (c0 * c0 + c1 * c1 + c2 * c2) = c2 * D := by simp only [D]; grind
    have sq : c0 * c0 + c1 * c1 + c2 * c2 ≠ 0 := fun q => cnz (sumsq q)
    rw [hD, Int.mul_zero, Int.mul_comm] at p0 p1 p2
    have q0 := mulnz sq p0
    have q1 := mulnz sq p1
    have q2 := mulnz sq p2
    have ex : ∃ j, j < 3 ∧ col [y0, y1, y2] j ≠ 0 := by
      refine Classical.byContradiction fun no => ynz' ⟨?_, ?_, ?_⟩
      · exact Classical.byContradiction fun k => no ⟨0, by omega, k⟩
      · exact Classical.byContradiction fun k => no ⟨1, by omega, k⟩
      · exact Classical.byContradiction fun k => no ⟨2, by omega, k⟩
    obtain ⟨a, b, ha, k⟩ := dep2 (n := 3) (x := [x0, x1, x2]) (y := [y0, y1, y2]) rfl rfl (fun i j hi hj => by
      have e01 : x0 * y1 = x1 * y0 := by omega
      have e02 : x0 * y2 = x2 * y0 := by omega
      have e12 : x1 * y2 = x2 * y1 := by omega
      match i, j, hi, hj with
      | 0, 0, _, _ => rfl
      | 0, 1, _, _ => exact e01
      | 0, 2, _, _ => exact e02
      | 1, 0, _, _ => exact e01.symm
      | 1, 1, _, _ => rfl
      | 1, 2, _, _ => exact e12
      | 2, 0, _, _ => exact e02.symm
      | 2, 1, _, _ => exact e12.symm
      | 2, 2, _, _ => rfl
      | _ + 3, _, k, _ => omega
      | _, _ + 3, _, k => omega) ex
    exact ⟨a, b, 0, fun q => ha q.1, fun w _ => by rw [k w]; simp⟩
  · exact ⟨A, B, D, hABD, rel⟩
theorem dep2d {c x y z : Vec} (hc : c.length = 2) (hx : x.length = 2) (hy : y.length = 2) (cx : dot c x = 0) (cy : dot c y = 0) (nz : ∃ b, dot c b ≠ 0) (ynz : ∃ p, dot p y ≠ 0) :
    ∃ a b d : Int, ¬ (a = 0 ∧ b = 0 ∧ d = 0) ∧ ∀ w, w.length = 2 → a * dot w x + b * dot w y + d * dot w z = 0 := by
  obtain ⟨c0, c1, rfl⟩ := len2 hc
  obtain ⟨x0, x1, rfl⟩ := len2 hx
  obtain ⟨y0, y1, rfl⟩ := len2 hy
  rw [d2] at cx cy
  have cnz : ¬ (c0 = 0 ∧ c1 = 0) := fun ⟨a, b⟩ => by
    obtain ⟨w, k⟩ := nz
    refine k ?_
    rw [a, b]
    have : ([0, 0] : Vec) = zeros 2 := rfl
    rw [this, dot_comm, dot_zeros]
  have ynz' : ¬ (y0 = 0 ∧ y1 = 0) := fun ⟨a, b⟩ => by
    obtain ⟨w, k⟩ := ynz
    refine k ?_
    rw [a, b]
    have : ([0, 0] : Vec) = zeros 2 := rfl
    rw [this, dot_zeros]
  have par : x0 * y1 = x1 * y0 := by
    have e0 : c0 * (x0 * y1 - x1 * y0) = y1 * (c0 * x0 + c1 * x1) - x1 * (c0 * y0 + c1 * y1) := by grind
    have e1 : c1 * (x0 * y1 - x1 * y0) = x0 * (c0 * y0 + c1 * y1) - y0 * (c0 * x0 + c1 * x1) := by grind
    rw [cx, cy] at e0 e1
    refine Classical.byContradiction fun k => ?_
    have k' : x0 * y1 - x1 * y0 ≠ 0 := by omega
    exact cnz ⟨mulnz k' (by rw [Int.mul_comm, e0]; simp), mulnz k' (by rw [Int.mul_comm, e1]; simp)⟩
  have ex : ∃ j, j < 2 ∧ col [y0, y1] j ≠ 0 := by
    refine Classical.byContradiction fun no => ynz' ⟨?_, ?_⟩
    · exact Classical.byContradiction fun k => no ⟨0, by omega, k⟩
    · exact Classical.byContradiction fun k => no ⟨1, by omega, k⟩
  obtain ⟨a, b, ha, k⟩ := dep2 (n := 2) (x := [x0, x1]) (y := [y0, y1]) rfl rfl (fun i j hi hj => by
    match i, j, hi, hj with
    | 0, 0, _, _ => rfl
    | 0, 1, _, _ => exact par
    | 1, 0, _, _ => exact par.symm
    | 1, 1, _, _ => rfl
    | _ + 2, _, k, _ => omega
    | _, _ + 2, _, k => omega) ex
  exact ⟨a, b, 0, fun q => ha q.1, fun w _ => by rw [k w]; simp⟩
/-- three incomparable rays do not lie in one plane -/
theorem no_three {n : Nat} {P : List Vec} {c x y z : Vec} (hn : n = 2 ∨ n = 3) (hP : Lens n P) (hc : c.length = n) (hx : x.length = n) (hy : y.length = n) (hz : z.length = n) (px : ∀ p ∈ P, 0 ≤ dot p x) (py : ∀ p ∈ P, 0 ≤ dot p y) (pz : ∀ p ∈ P, 0 ≤ dot p z)
    (xy : ¬ TS P x y) (yx : ¬ TS P y x) (xz : ¬ TS P x z) (zx : ¬ TS P z x) (yz : ¬ TS P y z) (zy : ¬ TS P z y) (cx : dot c x = 0) (cy : dot c y = 0) (cz : dot c z = 0) (nz : ∃ b, dot c b ≠ 0) : False := by
  have ynz : ∃ p, dot p y ≠ 0 := by
    refine Classical.byContradiction fun no => xy fun p hp _ => ?_
    exact Classical.byContradiction fun k => no ⟨p, k⟩
  obtain ⟨a, b, d, hne, rel⟩ : ∃ a b d : Int, ¬ (a = 0 ∧ b = 0 ∧ d = 0) ∧ ∀ w, w.length = n → a * dot w x + b * dot w y + d * dot w z = 0 := by
    rcases hn with rfl | rfl
    · exact dep2d hc hx hy cx cy nz ynz
    · exact dep3 hc hx hy hz cx cy cz nz ynz
  -- one against two
  have one : ∀ {a b d : Int} {x y z : Vec}, (∀ p ∈ P, 0 ≤ dot p x) → (∀ p ∈ P, 0 ≤ dot p y) → (∀ p ∈ P, 0 ≤ dot p z) → ¬ TS P x y → ¬ TS P x z → ¬ TS P y x → 0 < a → b ≤ 0 → d ≤ 0 → (∀ w, w.length = n → a * dot w x + b * dot w y + d * dot w z = 0) → False := by
    intro a b d x y z px py pz xy xz yx ha hb hd rel
    have sgn : ∀ p ∈ P, 0 ≤ -b * dot p y ∧ 0 ≤ -d * dot p z := fun p hp => ⟨Int.mul_nonneg (by omega) (py p hp), Int.mul_nonneg (by omega) (pz p hp)⟩
    have rel2 : ∀ p ∈ P, a * dot p x = -b * dot p y + -d * dot p z := fun p hp => by
      have := rel p (hP p hp)
      have e1 : -b * dot p y = -(b * dot p y) := Int.neg_mul _ _
      have e2 : -d * dot p z = -(d * dot p z) := Int.neg_mul _ _
      omega
    rcases Int.lt_or_eq_of_le hb with hb | hb
    · refine xy fun p hp z0 => ?_
      have := rel2 p hp
      rw [z0] at this
      have := sgn p hp
      exact pos_of_mul (k := -b) (by omega) (by omega)
    · rcases Int.lt_or_eq_of_le hd with hd | hd
      · refine xz fun p hp z0 => ?_
        have := rel2 p hp
        rw [z0] at this
        have := sgn p hp
        exact pos_of_mul (k := -d) (by omega) (by omega)
      · refine yx fun p hp _ => ?_
        have := rel2 p hp
        rw [hb, hd] at this
        exact pos_of_mul ha (by rw [this]; simp)
  have same : ∀ {a b d : Int} {x y z : Vec}, (∀ p ∈ P, 0 ≤ dot p x) → (∀ p ∈ P, 0 ≤ dot p y) → (∀ p ∈ P, 0 ≤ dot p z) → ¬ TS P y x → 0 < a → 0 ≤ b → 0 ≤ d → (∀ w, w.length = n → a * dot w x + b * dot w y + d * dot w z = 0) → False := by
    intro a b d x y z px py pz yx ha hb hd rel
    refine yx fun p hp _ => ?_
    have h1 := Int.mul_nonneg (Int.le_of_lt ha) (px p hp)
    have h2 := Int.mul_nonneg hb (py p hp)
    have h3 := Int.mul_nonneg hd (pz p hp)
    have := rel p (hP p hp)
    exact pos_of_mul ha (by omega)
  have all : ∀ {a b d : Int}, ¬ (a = 0 ∧ b = 0 ∧ d = 0) → (∀ w, w.length = n → a * dot w x + b * dot w y + d * dot w z = 0) → (0 < a ∨ (a = 0 ∧ 0 < b) ∨ (a = 0 ∧ b = 0 ∧ 0 < d)) → False := by
    intro a b d hne rel hs
    have r1 : ∀ w, w.length = n → b * dot w y + a * dot w x + d * dot w z = 0 := fun w hw => by have := rel w hw; omega
    have r2 : ∀ w, w.length = n → d * dot w z + a * dot w x + b * dot w y = 0 := fun w hw => by have := rel w hw; omega
    have ng : ∀ {s t u : Int} {x y z : Vec}, (∀ w, w.length = n → s * dot w x + t * dot w y + u * dot w z = 0) → ∀ w, w.length = n → (-s) * dot w x + (-t) * dot w y + (-u) * dot w z = 0 := fun {s t u x y z} r w hw => by
      have := r w hw
      rw [Int.neg_mul, Int.neg_mul, Int.neg_mul]; omega
    rcases Int.lt_trichotomy a 0 with ha | ha | ha
    · omega
    · rcases Int.lt_trichotomy b 0 with hb | hb | hb
      · omega
      · exact same pz px py xz (by omega) (by omega) (by omega) r2
      · rcases Int.le_total d 0 with hd | hd
        · exact one py px pz yx yz xy hb (by omega) hd r1
        · exact same py px pz xy hb (by omega) hd r1
    · rcases Int.le_total b 0 with hb | hb <;> rcases Int.le_total d 0 with hd | hd
      · exact one px py pz xy xz yx ha hb hd rel
      · rcases Int.lt_or_eq_of_le hb with hb | hb
        · exact one py px pz yx yz xy (a := -b) (by omega) (by omega) (by omega) (ng r1)
        · exact same px py pz yx ha (by omega) hd rel
      · rcases Int.lt_or_eq_of_le hd with hd | hd
        · exact one pz px py zx zy xz (a := -d) (by omega) (by omega) (by omega) (ng r2)
        · exact same px py pz yx ha hb (by omega) rel
      · exact same px py pz yx ha hb hd rel
  by_cases hs : 0 < a ∨ (a = 0 ∧ 0 < b) ∨ (a = 0 ∧ b = 0 ∧ 0 < d)
  · exact all hne rel hs
  · exact all (a := -a) (b := -b) (d := -d) (by omega) (fun w hw => by
      have := rel w hw
      rw [Int.neg_mul, Int.neg_mul, Int.neg_mul]; omega) (by omega)
end FM
end
section
set_option linter.all false
/-! Bounds and counts of the builder, two or three columns. -/
namespace FM
variable {n : Nat} {E C L R : List Vec} {B : Bld} {u v w c : Vec}
/-- how far a vector must go along r so that all conditions hold -/
def need (C : List Vec) (w : Vec) : Nat := C.foldr (fun c s => (dot c w).natAbs + s) 0
theorem need_le : ∀ {C : List Vec} {c : Vec}, c ∈ C → (dot c w).natAbs ≤ need C w
  | x :: C, c, h => by
    unfold need
    rw [List.foldr_cons]
    rcases List.mem_cons.mp h with rfl | h
    · exact Nat.le_add_right _ _
    · exact Nat.le_trans (need_le h) (Nat.le_add_left _ _)
theorem span_nil (h : Gen n [] [] v) (hv : v.length = n) : v = zeros n := by
  have := h.dot_zero (c := v) (L := []) (R := []) (fun x hx => nomatch hx) (fun x hx => nomatch hx) (fun x hx => nomatch hx) (fun x hx => nomatch hx)
  rw [zero_of_dot_self v this, hv]
/-- an extreme ray is fixed by the conditions that are tight at it and functionals that part it from the lines -/
theorem ray_fixes {F : List Vec} {r : Vec} (hL : Lens n L) (lr : r.length = n) (lP : Lens n (E ++ C)) (ext : ∀ v, v.length = n → Sat E C v → TS (E ++ C) r v → Gen n L [r] v) (eqr : ∀ e ∈ E, dot e r = 0) (ger : ∀ c ∈ C, 0 ≤ dot c r)
    (hF : Lens n F) (Fr : ∀ f ∈ F, dot f r = 0) (Fl : ∀ v, Gen n L [] v → (∀ f ∈ F, dot f v = 0) → v = zeros n) : Fixes n ((E ++ C).filter (fun p => dot p r == 0) ++ F) r := by
  constructor
  · intro u hu
    rcases List.mem_append.mp hu with hu | hu
    · simpa using (List.mem_filter.mp hu).2
    · exact Fr u hu
  · intro w hw hu
    have tight : ∀ p ∈ E ++ C, dot p r = 0 → dot p w = 0 := fun p hp z => hu p (List.mem_append_left _ (List.mem_filter.mpr ⟨hp, by simpa using z⟩))
    have lx : (comb 1 w (need C w) r).length = n := comb_len hw lr
    have ex : ∀ p, dot p (comb 1 w (need C w) r) = dot p w + (need C w : Int) * dot p r := fun p => by
      rw [dot_comb _ _ _ (hw.trans lr.symm)]; grind
    have g := ext (comb 1 w (need C w) r) lx ⟨fun e he => by
      rw [ex, tight e (by simp [he]) (eqr e he), eqr e he]; simp, fun c hc => by
      rw [ex]
      rcases Int.lt_or_eq_of_le (ger c hc) with q | q
      · have h1 := need_le (w := w) hc
        have h2 : (need C w : Int) * 1 ≤ (need C w : Int) * dot c r := Int.mul_le_mul_of_nonneg_left (by omega) (by omega)
        omega
      · rw [tight c (by simp [hc]) q.symm, ← q]; simp⟩ fun p hp z => by rw [ex, tight p hp z, z]; simp
    obtain ⟨k, a, hk, ha, g2⟩ := g.one hL lr
    have lz : (comb k (comb 1 w (need C w) r) (-a) r).length = n := comb_len lx lr
    have z := Fl _ g2 fun f hf => by
      rw [dot_comb _ _ _ (lx.trans lr.symm), ex, hu f (List.mem_append_right _ hf), Fr f hf]; simp
    refine ⟨k, a - k * need C w, hk, ?_⟩
    refine ext_dot (by simp [hw, lr]) fun q _ => ?_
    have := congrArg (dot q) z
    rw [dot_comb _ _ _ (lx.trans lr.symm), ex, dot_zeros] at this
    rw [dot_smul, dot_smul]
    grind
theorem Inv.ext (h : Inv n E C B) {r : Vec × Nat} (hr : r ∈ B.rays) (hv : v.length = n) (s : Sat E C v) (t : TS (E ++ C) r.1 v) : Gen n B.lines [r.1] v := by
  have Bs := h.base
  obtain ⟨F, hF, gF⟩ := (h.comp v hv s).face Bs.lens Bs.lenr Bs.zero Bs.ge
  refine gF.sub fun x hx => ?_
  rw [List.mem_singleton]
  refine Classical.byContradiction fun ne => ?_
  exact Bs.inc r.1 (List.mem_map_of_mem hr) x (hF x hx).1 (Ne.symm ne) (t.trans (hF x hx).2)

def lnB (M : Nat) : Nat → Nat
  | 0 => 1
  | t + 1 => 6 * M * (lnB M t * lnB M t)
def fnB (M : Nat) : Nat → Nat
  | 0 => 1
  | t + 1 => 6 * (fnB M t * fnB M t) * lnB M t
/-- the builder is small: t lines have been turned -/
structure Small (n M : Nat) (B : Bld) (t : Nat) (F : List Vec) : Prop where
  cnt : B.lines.length + t = n
  ln : ∀ l ∈ B.lines, Bnd (lnB M t) l
  lenF : Lens n F
  fn : ∀ f ∈ F, Bnd (fnB M t) f
  fr : ∀ r ∈ B.rays, ∀ f ∈ F, dot f r.1 = 0
  fl : ∀ v, Gen n B.lines [] v → (∀ f ∈ F, dot f v = 0) → v = zeros n
  nof : B.lines = [] → F = []
theorem lnB_le {M : Nat} (h1 : 1 ≤ M) : ∀ {t : Nat}, t ≤ 2 → lnB M t ≤ 216 * (M * M * M)
  | 0, _ => by
    show 1 ≤ _
    have : 1 * 1 * 1 ≤ M * M * M := Nat.mul_le_mul (Nat.mul_le_mul h1 h1) h1
    omega
  | 1, _ => by
    show 6 * M * (1 * 1) ≤ _
    have : M * 1 * 1 ≤ M * M * M := Nat.mul_le_mul (Nat.mul_le_mul (Nat.le_refl _) h1) h1
    omega
  | 2, _ => by
    show 6 * M * (6 * M * (1 * 1) * (6 * M * (1 * 1))) ≤ _
    have : 6 * M * (6 * M * (1 * 1) * (6 * M * (1 * 1))) = 216 * (M * M * M) := by grind
    omega
  | t + 3, h => by omega
theorem fnB_le {M : Nat} (h1 : 1 ≤ M) : ∀ {t : Nat}, t ≤ 2 → fnB M t ≤ 1296 * M
  | 0, _ => by show 1 ≤ _; omega
  | 1, _ => by show 6 * (1 * 1) * 1 ≤ _; omega
  | 2, _ => by
    show 6 * (6 * (1 * 1) * 1 * (6 * (1 * 1) * 1)) * (6 * M * (1 * 1)) ≤ _
    omega
  | t + 3, h => by omega
theorem Small.turns {M t : Nat} {F : List Vec} (h : Small n M B t F) (hn : n = 2 ∨ n = 3) {l : Vec} (hl : l ∈ B.lines) : t ≤ 2 := by
  have := h.cnt
  have := List.length_pos_of_mem hl
  omega
theorem Small.lines {M t : Nat} {F : List Vec} (h : Small n M B t F) (hn : n = 2 ∨ n = 3) (h1 : 1 ≤ M) : ∀ l ∈ B.lines, Bnd (216 * (M * M * M)) l := fun l hl =>
  (h.ln l hl).mono (lnB_le h1 (h.turns hn hl))
theorem Small.fun_ {M t : Nat} {F : List Vec} (h : Small n M B t F) (hn : n = 2 ∨ n = 3) (h1 : 1 ≤ M) : ∀ f ∈ F, Bnd (1296 * M) f := fun f hf => by
  cases e : B.lines with
  | nil =>
    rw [h.nof e] at hf
    exact nomatch hf
  | cons l ls => exact (h.fn f hf).mono (fnB_le h1 (h.turns hn (l := l) (by rw [e]; simp)))
/-- all rays of a small builder are small -/
theorem Small.rays {M t : Nat} {F : List Vec} (h : Small n M B t F) (I : Inv n E C B) (hn : n = 2 ∨ n = 3) (h1 : 1 ≤ M) (lP : Lens n (E ++ C)) (bP : ∀ p ∈ E ++ C, Bnd M p) : ∀ r ∈ B.rays, Bnd (2 * (1296 * M * (1296 * M))) r.1 := fun r hr => by
  have fx := ray_fixes I.lens (I.lr r hr) lP (fun v hv s t => I.ext hr hv s t) (I.eqr r hr) (I.ger r hr) h.lenF (h.fr r hr) h.fl
  refine fixes_small hn (by omega) (fun u hu => ?_) (fun u hu => ?_) (I.lr r hr) (I.prim r hr) fx
  · rcases List.mem_append.mp hu with hu | hu
    · exact lP u (List.mem_filter.mp hu).1
    · exact h.lenF u hu
  · rcases List.mem_append.mp hu with hu | hu
    · exact (bP u (List.mem_filter.mp hu).1).mono (by omega)
    · exact h.fun_ hn h1 u hu
theorem unit_bnd : ∀ (n k : Nat), Bnd 1 (unit n k)
  | 0, k => by simp [unit, Bnd.nil]
  | n + 1, 0 => by
    rw [unit_zero, Bnd.cons]
    exact ⟨by decide, fun x hx => by rw [zeros, List.mem_replicate] at hx; rw [hx.2]; decide⟩
  | n + 1, k + 1 => by
    rw [unit_succ, Bnd.cons]
    exact ⟨by decide, unit_bnd n k⟩
theorem Small.start (n M : Nat) : Small n M (start n) 0 ((List.range n).map (unit n)) where
  cnt := by simp [FM.start]
  ln := fun l hl => by
    obtain ⟨k, _, rfl⟩ := List.mem_map.mp hl
    exact unit_bnd n k
  lenF := fun l hl => by
    obtain ⟨k, _, rfl⟩ := List.mem_map.mp hl
    exact unit_length n k
  fn := fun l hl => by
    obtain ⟨k, _, rfl⟩ := List.mem_map.mp hl
    exact unit_bnd n k
  fr := fun r hr => nomatch hr
  fl := fun v g h => by
    have hv := g.len (L := (List.range n).map (unit n)) (R := []) (fun l hl => by
      obtain ⟨k, _, rfl⟩ := List.mem_map.mp hl
      exact unit_length n k) (fun x hx => nomatch hx)
    refine List.ext_getElem (by rw [hv, zeros_length]) fun i h1 h2 => ?_
    have := h (unit n i) (List.mem_map.mpr ⟨i, by simp; omega, rfl⟩)
    rw [col_unit hv (by omega), col_get h1] at this
    rw [this]; simp [zeros]
  nof := fun h => by
    have : n = 0 := by
      have := congrArg List.length h
      simpa [FM.start] using this
    subst this
    rfl
/-- a line is turned -/
theorem Small.turn {M t : Nat} {F : List Vec} {l : Vec} {ls : List Vec} {rs : List (Vec × Nat)} (h : Small n M B t F) (hn : n ≤ 3) (hc : c.length = n) (bc : Bnd M c) (hL : Lens n B.lines) (hR : Lens n (B.rays.map (·.1))) (e : turnLine c B = some (l, ls, rs)) :
    ∃ F', ∀ (rs' : List (Vec × Nat)) (k : Nat), (∀ r ∈ rs', r.1 = l ∨ ∃ q ∈ rs, r.1 = q.1) → Small n M ⟨ls, rs', k⟩ (t + 1) F' := by
  obtain ⟨a, m, b, eL, hm, el, els, ers⟩ := turnLine_some e
  have hmL : m ∈ B.lines := by rw [eL]; simp
  have hml : m.length = n := hL m hmL
  have hll : l.length = n := by rw [el, flipped_len]; exact hml
  have hpos : 0 < dot c l := by rw [el]; exact flipped_pos hm
  have bl : Bnd (lnB M t) l := by
    rw [el]; unfold flipped
    split
    · exact (h.ln m hmL).neg
    · exact h.ln m hmL
  have gl : Gen n B.lines [] l := by
    rw [el]; unfold flipped
    split
    · exact .nline hmL
    · exact .line hmL
  have memL : ∀ o ∈ a ++ b, o ∈ B.lines := fun o ho => by
    rw [eL]; simp only [List.mem_append, List.mem_cons] at ho ⊢
    rcases ho with h | h
    · exact .inl h
    · exact .inr (.inr h)
  have cnt' : ls.length + (t + 1) = n := by
    have := h.cnt
    rw [els, List.length_map]
    rw [eL, List.length_append, List.length_cons] at this
    rw [List.length_append]
    omega
  have ln' : ∀ x ∈ ls, Bnd (lnB M (t + 1)) x := fun x hx => by
    rw [els] at hx
    obtain ⟨o, ho, rfl⟩ := List.mem_map.mp hx
    unfold adj
    refine Bnd.primitive ?_
    have bo := h.ln o (memL o ho)
    have v1 : (dot c l).natAbs ≤ 3 * (M * lnB M t) := dot_bound3 bc bl (by omega)
    have v2 : (-dot c o).natAbs ≤ 3 * (M * lnB M t) := by rw [Int.natAbs_neg]; exact dot_bound3 bc bo (by omega)
    have := Bnd.comb bo bl v1 v2
    refine this.mono ?_
    show _ ≤ 6 * M * (lnB M t * lnB M t)
    have : 3 * (M * lnB M t) * lnB M t + 3 * (M * lnB M t) * lnB M t = 6 * M * (lnB M t * lnB M t) := by grind
    omega
  -- a functional that is not 0 on l
  obtain ⟨f0, hf0, f0l⟩ : ∃ f0 ∈ F, dot f0 l ≠ 0 := by
    refine Classical.byContradiction fun no => ?_
    have := h.fl l gl fun f hf => Classical.byContradiction fun q => no ⟨f, hf, q⟩
    rw [this, dot_zeros] at hpos
    omega
  have lF' : ∀ f ∈ F, (comb (dot f0 l) f (-dot f l) f0).length = n := fun f hf => comb_len (h.lenF f hf) (h.lenF f0 hf0)
  have eF : ∀ f ∈ F, ∀ w, dot (comb (dot f0 l) f (-dot f l) f0) w = dot f0 l * dot f w - dot f l * dot f0 w := fun f hf w => by
    rw [dot_comm, dot_comb _ _ _ ((h.lenF f hf).trans (h.lenF f0 hf0).symm), dot_comm w f, dot_comm w f0]
    rw [Int.neg_mul]; omega
  by_cases hls : ls = []
  · refine ⟨[], fun rs' k _ => ⟨cnt', ln', (fun x hx => nomatch hx), (fun x hx => nomatch hx), (fun _ _ x hx => nomatch hx), fun v g _ => ?_, fun _ => rfl⟩⟩
    simp only [hls] at g
    exact span_nil g (g.len (L := []) (R := []) (fun x hx => nomatch hx) (fun x hx => nomatch hx))
  · refine ⟨F.map fun f => comb (dot f0 l) f (-dot f l) f0, fun rs' k hrs => ⟨cnt', ln', fun x hx => ?_, fun x hx => ?_, fun r hr x hx => ?_, fun v g hz => ?_, fun q => absurd q hls⟩⟩
    · obtain ⟨f, hf, rfl⟩ := List.mem_map.mp hx
      exact lF' f hf
    · obtain ⟨f, hf, rfl⟩ := List.mem_map.mp hx
      have v1 : (dot f0 l).natAbs ≤ 3 * (fnB M t * lnB M t) := dot_bound3 (h.fn f0 hf0) bl (by rw [h.lenF f0 hf0]; exact hn)
      have v2 : (-dot f l).natAbs ≤ 3 * (fnB M t * lnB M t) := by rw [Int.natAbs_neg]; exact dot_bound3 (h.fn f hf) bl (by rw [h.lenF f hf]; exact hn)
      refine (Bnd.comb (h.fn f hf) (h.fn f0 hf0) v1 v2).mono ?_
      show _ ≤ 6 * (fnB M t * fnB M t) * lnB M t
      have : 3 * (fnB M t * lnB M t) * fnB M t + 3 * (fnB M t * lnB M t) * fnB M t = 6 * (fnB M t * fnB M t) * lnB M t := by grind
      omega
    · obtain ⟨f, hf, rfl⟩ := List.mem_map.mp hx
      have onl : dot (comb (dot f0 l) f (-dot f l) f0) l = 0 := by rw [eF f hf]; grind
      rcases hrs r hr with q | ⟨q, hq, e⟩
      · rw [q]; exact onl
      · rw [ers] at hq
        obtain ⟨o, ho, rfl⟩ := List.mem_map.mp hq
        rw [e]
        obtain ⟨g, hg, k⟩ := adj_dot (c := c) (value := dot c l) hll (hR o.1 (List.mem_map_of_mem ho))
        refine pos_of_mul hg ?_
        rw [k, onl, eF f hf, h.fr o ho f hf, h.fr o ho f0 hf0]; simp
    · -- v in the span of the new lines, all new functionals 0
      have hv := g.len (R := []) (fun x hx => by
        simp only at hx
        rw [els] at hx
        obtain ⟨o, ho, rfl⟩ := List.mem_map.mp hx
        exact (adj_spec hll (hL o (memL o ho))).1) (fun x hx => nomatch hx)
      have cv : dot c v = 0 := g.dot_zero (c := c) (R := []) (fun x hx => by
        simp only at hx
        rw [els] at hx
        obtain ⟨o, ho, rfl⟩ := List.mem_map.mp hx
        exact (adj_spec hll (hL o (memL o ho))).1) (fun x hx => nomatch hx) (fun x hx => by
        simp only at hx
        rw [els] at hx
        obtain ⟨o, ho, rfl⟩ := List.mem_map.mp hx
        obtain ⟨g2, hg2, k⟩ := adj_dot (c := c) (value := dot c l) hll (hL o (memL o ho))
        exact pos_of_mul hg2 (by rw [k c]; grind)) (fun x hx => nomatch hx)
      have gv : Gen n B.lines [] v := g.mono (R' := []) (fun x hx => by
        simp only at hx
        rw [els] at hx
        obtain ⟨o, ho, rfl⟩ := List.mem_map.mp hx
        obtain ⟨k1, g2, hg2, e2⟩ := adj_spec (c := c) (value := dot c l) hll (hL o (memL o ho))
        have : Gen n B.lines [] (comb (dot c l) o (-dot c o) l) := Gen.span_comb (.line (memL o ho)) gl
        rw [e2] at this
        have := Gen.div hg2 k1 this
        exact ⟨this, this.neg_span⟩) fun r hr => nomatch hr
      have lu : (comb (dot f0 l) v (-dot f0 v) l).length = n := comb_len hv hll
      have uz := h.fl (comb (dot f0 l) v (-dot f0 v) l) (Gen.span_comb gv gl) fun f hf => by
        have := hz _ (List.mem_map_of_mem hf)
        rw [eF f hf] at this
        rw [dot_comb _ _ _ (hv.trans hll.symm)]
        grind
      have q1 := congrArg (dot c) uz
      rw [dot_comb _ _ _ (hv.trans hll.symm), dot_zeros, cv] at q1
      have f0v : dot f0 v = 0 := by
        have : dot c l * (-dot f0 v) = 0 := by rw [Int.mul_comm]; omega
        have := pos_of_mul hpos this
        omega
      refine ext_dot (by rw [hv, zeros_length]) fun w _ => ?_
      have q2 := congrArg (dot w) uz
      rw [dot_comb _ _ _ (hv.trans hll.symm), dot_zeros, f0v] at q2
      rw [dot_zeros]
      exact mulnz f0l (by rw [← q2]; simp)
/-- no line is turned -/
theorem Small.stay {M t : Nat} {F : List Vec} (h : Small n M B t F) (I : Inv n E C B) (k : Nat) : Small n M ⟨B.lines, nextRays c B, k⟩ t F where
  cnt := h.cnt
  ln := h.ln
  lenF := h.lenF
  fn := h.fn
  fr := fun y hy f hf => by
    rcases mem_next.mp hy with ⟨r, hr, z, rfl⟩ | ⟨hr, z⟩ | ⟨a, ha, b, hb, sa, sb, nb, rfl⟩
    · exact h.fr r hr f hf
    · exact h.fr y hr f hf
    · obtain ⟨_, g, hg, q⟩ := mid_dot (c := c) (I.lr a ha) (I.lr b hb)
      exact pos_of_mul hg (by rw [q, h.fr a ha f hf, h.fr b hb f hf]; simp)
  fl := h.fl
  nof := h.nof
theorem Small.addE {M t : Nat} {F : List Vec} (h : Small n M B t F) (I : InvE n E B) (hn : n ≤ 3) (hc : c.length = n) (bc : Bnd M c) : ∃ t' F', Small n M (add c true B) t' F' := by
  unfold FM.add
  split
  · rename_i l ls rs e
    obtain ⟨F', k⟩ := h.turn hn hc bc I.lens (by rw [I.norays]; exact fun x hx => nomatch hx) e
    refine ⟨t + 1, F', k _ _ fun r hr => ?_⟩
    simp only [if_true, List.append_nil] at hr
    obtain ⟨q, hq, rfl⟩ := List.mem_map.mp hr
    exact .inr ⟨q, hq, rfl⟩
  · refine ⟨t, F, h.cnt, h.ln, h.lenF, h.fn, ?_, h.fl, h.nof⟩
    intro r hr
    simp [I.norays, keptOf, posOf, joined] at hr
theorem Small.addC {M t : Nat} {F : List Vec} (h : Small n M B t F) (I : Inv n E C B) (hn : n ≤ 3) (hc : c.length = n) (bc : Bnd M c) : ∃ t' F', Small n M (add c false B) t' F' := by
  unfold FM.add
  split
  · rename_i l ls rs e
    obtain ⟨F', k⟩ := h.turn hn hc bc I.lens I.lenr e
    refine ⟨t + 1, F', k _ _ fun r hr => ?_⟩
    rcases List.mem_append.mp hr with hr | hr
    · obtain ⟨q, hq, rfl⟩ := List.mem_map.mp hr
      exact .inr ⟨q, hq, rfl⟩
    · simp at hr
      exact .inl (by rw [hr])
  · exact ⟨t, F, h.stay I _⟩

/-! ### counts -/
theorem fresh_two {n : Nat} {E C : List Vec} {B : Bld} {c : Vec} (I : Inv n E C B) (hn : n = 2 ∨ n = 3) (lP : Lens n (E ++ C)) (hc : c.length = n) (e : turnLine c B = none) : (nextRays c B).length ≤ B.rays.length + 1 := by
  have I2 := I.step hc e
  have parts : B.rays.length = (keptOf c (2 ^ B.count) B.rays).length + ((posOf c B.rays).map (fun r => (r.1, r.2.1))).length + (negOf c B.rays).length := by
    unfold keptOf posOf negOf
    simp only [List.length_map]
    induction B.rays with
    | nil => rfl
    | cons r rs ih =>
      rw [List.filter_cons, List.filter_cons, List.filter_cons, List.length_cons, ih]
      rcases Int.lt_trichotomy (dot c r.1) 0 with h | h | h
      · rw [if_neg (by simp; omega), if_neg (by simp; omega), if_pos (by simpa using h), List.length_cons]; omega
      · rw [if_pos (by simpa using h), if_neg (by simp; omega), if_neg (by simp; omega), List.length_cons]; omega
      · rw [if_neg (by simp; omega), if_pos (by simpa using h), if_neg (by simp; omega), List.length_cons]; omega
  have total : (nextRays c B).length = (keptOf c (2 ^ B.count) B.rays).length + ((posOf c B.rays).map (fun r => (r.1, r.2.1))).length + (joined B.rays (posOf c B.rays) (negOf c B.rays) (2 ^ B.count)).length := by
    unfold nextRays
    rw [List.length_append, List.length_append]
  by_cases hj : joined B.rays (posOf c B.rays) (negOf c B.rays) (2 ^ B.count) = []
  · rw [hj] at total
    simp at total
    simp at parts
    omega
  · have neg1 : 1 ≤ (negOf c B.rays).length := by
      obtain ⟨x, hx⟩ := List.exists_mem_of_ne_nil _ hj
      obtain ⟨a, ha, b, hb, sa, sb, nb, rfl⟩ := mem_joined.mp hx
      refine List.length_pos_of_mem (a := (b.1, b.2, dot c b.1)) ?_
      unfold negOf
      exact List.mem_map.mpr ⟨b, List.mem_filter.mpr ⟨hb, by simpa using sb⟩, rfl⟩
    have le2 : (joined B.rays (posOf c B.rays) (negOf c B.rays) (2 ^ B.count)).length ≤ 2 := by
      refine Classical.byContradiction fun gt => ?_
      have pw : (joined B.rays (posOf c B.rays) (negOf c B.rays) (2 ^ B.count)).Pairwise fun r s => ¬ TS (E ++ (C ++ [c])) r.1 s.1 ∧ ¬ TS (E ++ (C ++ [c])) s.1 r.1 := I2.inc.sublist (by
        unfold nextRays
        exact List.sublist_append_right _ _)
      have mem : ∀ x ∈ joined B.rays (posOf c B.rays) (negOf c B.rays) (2 ^ B.count), x.1.length = n ∧ dot c x.1 = 0 ∧ x ∈ nextRays c B := fun x hx => by
        have hN : x ∈ nextRays c B := by unfold nextRays; exact List.mem_append_right _ hx
        refine ⟨I2.lr x hN, ?_, hN⟩
        obtain ⟨a, ha, b, hb, sa, sb, nb, rfl⟩ := mem_joined.mp hx
        exact mid_zero (I.lr a ha) (I.lr b hb)
      have nz : ∃ b, dot c b ≠ 0 := by
        obtain ⟨x, hx⟩ := List.exists_mem_of_ne_nil _ hj
        obtain ⟨a, ha, b, hb, sa, sb, nb, rfl⟩ := mem_joined.mp hx
        exact ⟨b.1, by omega⟩
      generalize joined B.rays (posOf c B.rays) (negOf c B.rays) (2 ^ B.count) = J at *
      match J, gt, pw, mem with
      | [], gt, _, _ => simp at gt
      | [_], gt, _, _ => simp at gt
      | [_, _], gt, _, _ => simp at gt
      | x :: y :: z :: rest, _, pw, mem =>
        rw [List.pairwise_cons, List.pairwise_cons] at pw
        obtain ⟨p1, p2, _⟩ := pw
        have mx := mem x (by simp)
        have my := mem y (by simp)
        have mz := mem z (by simp)
        have xy := p1 y (by simp)
        have xz := p1 z (by simp)
        have yz := p2 z (by simp)
        have lP2 : Lens n (E ++ (C ++ [c])) := fun p hp => by
          rw [← List.append_assoc] at hp
          rcases List.mem_append.mp hp with hp | hp
          · exact lP p hp
          · rw [List.mem_singleton] at hp; rw [hp]; exact hc
        exact no_three hn lP2 hc mx.1 my.1 mz.1 (I2.geP x mx.2.2) (I2.geP y my.2.2) (I2.geP z mz.2.2) xy.1 xy.2 xz.1 xz.2 yz.1 yz.2 mx.2.1 my.2.1 mz.2.1 nz
    omega
theorem add_count {n : Nat} {E C : List Vec} {B : Bld} {c : Vec} (I : Inv n E C B) (hn : n = 2 ∨ n = 3) (lP : Lens n (E ++ C)) (hc : c.length = n) : (add c false B).rays.length ≤ B.rays.length + 1 := by
  unfold FM.add
  split
  · rename_i l ls rs e
    obtain ⟨a, m, b, eL, hm, el, els, ers⟩ := turnLine_some e
    simp [ers]
  · rename_i e
    exact fresh_two I hn lP hc e

/-- every state of the builder on the way -/
structure Way (n M : Nat) (B : Bld) (k : Nat) : Prop where
  lens : Lens n B.lines
  lenr : ∀ r ∈ B.rays, r.1.length = n
  lines : ∀ l ∈ B.lines, Bnd (216 * (M * M * M)) l
  rays : ∀ r ∈ B.rays, Bnd (2 * (1296 * M * (1296 * M))) r.1
  cntl : B.lines.length ≤ n
  cntr : B.rays.length ≤ k
  two : B.lines.length = 2 → n = 3 → ∀ l ∈ B.lines, Bnd (6 * M) l
  all : B.lines.length = n → ∀ l ∈ B.lines, Bnd 1 l
theorem way_of {M t k : Nat} {F : List Vec} (h : Small n M B t F) (I : Inv n E C B) (hn : n = 2 ∨ n = 3) (h1 : 1 ≤ M) (lP : Lens n (E ++ C)) (bP : ∀ p ∈ E ++ C, Bnd M p) (hk : B.rays.length ≤ k) : Way n M B k where
  lens := I.lens
  lenr := I.lr
  lines := h.lines hn h1
  rays := h.rays I hn h1 lP bP
  cntl := by have := h.cnt; omega
  cntr := hk
  two := fun e1 e2 l hl => by
    have := h.cnt
    have : t = 1 := by omega
    subst this
    have := h.ln l hl
    exact this.mono (by show 6 * M * (1 * 1) ≤ _; omega)
  all := fun e l hl => by
    have := h.cnt
    have : t = 0 := by omega
    subst this
    exact h.ln l hl
theorem addEqs_small {M : Nat} (hn : n = 2 ∨ n = 3) (h1 : 1 ≤ M) : ∀ {E E0 : List Vec} {B : Bld} {t : Nat} {F : List Vec}, InvE n E0 B → Small n M B t F → Lens n (E0 ++ E) → (∀ e ∈ E0 ++ E, Bnd M e) →
    (∀ j, j ≤ E.length → Way n M (addEqs (E.take j) B) 0) ∧ ∃ t' F', Small n M (addEqs E B) t' F'
  | [], E0, B, t, F, I, h, lE, bE => by
    refine ⟨fun j hj => ?_, t, F, h⟩
    have : j = 0 := by simpa using hj
    subst this
    rw [List.append_nil] at lE bE
    exact way_of (E := E0) (C := []) h I.start hn h1 (by rw [List.append_nil]; exact lE) (by rw [List.append_nil]; exact bE) (by rw [show (addEqs (List.take 0 ([] : List Vec)) B) = B from rfl, I.norays]; exact Nat.le_refl 0)
  | e :: E, E0, B, t, F, I, h, lE, bE => by
    have le : e.length = n := lE e (by simp)
    obtain ⟨t', F', h'⟩ := h.addE I (by omega) le (bE e (by simp))
    have I' := I.add le
    have eq : (E0 ++ [e]) ++ E = E0 ++ e :: E := by rw [List.append_assoc]; rfl
    obtain ⟨k1, k2⟩ := addEqs_small hn h1 (E := E) (E0 := E0 ++ [e]) I' h' (by rw [eq]; exact lE) (by rw [eq]; exact bE)
    refine ⟨fun j hj => ?_, k2⟩
    cases j with
    | zero =>
      exact way_of (E := E0) (C := []) h I.start hn h1 (fun p hp => lE p (by rw [List.append_nil] at hp; simp [hp])) (fun p hp => bE p (by rw [List.append_nil] at hp; simp [hp])) (by
        rw [show (addEqs ((e :: E).take 0) B) = B from rfl, I.norays]; exact Nat.le_refl 0)
    | succ j => exact k1 j (by simpa using hj)
theorem addConds_small {M : Nat} (hn : n = 2 ∨ n = 3) (h1 : 1 ≤ M) : ∀ {C C0 : List Vec} {B : Bld} {t : Nat} {F : List Vec}, Inv n E C0 B → Small n M B t F → Lens n (E ++ (C0 ++ C)) → (∀ e ∈ E ++ (C0 ++ C), Bnd M e) → B.rays.length ≤ C0.length →
    (∀ j, j ≤ C.length → Way n M (addConds (C.take j) B) (C0.length + j)) ∧ ∃ t' F', Small n M (addConds C B) t' F' 
  | [], C0, B, t, F, I, h, lE, bE, hk => by
    refine ⟨fun j hj => ?_, t, F, h⟩
    have : j = 0 := by simpa using hj
    subst this
    rw [List.append_nil] at lE bE
    exact way_of h I hn h1 lE bE hk
  | c :: C, C0, B, t, F, I, h, lE, bE, hk => by
    have lc : c.length = n := lE c (by simp)
    obtain ⟨t', F', h'⟩ := h.addC I (by omega) lc (bE c (by simp))
    have I' := I.add lc
    have lP : Lens n (E ++ C0) := fun p hp => lE p (by simp only [List.mem_append] at hp ⊢; rcases hp with hp | hp <;> simp [hp])
    have hk' := add_count I hn lP lc
    have eq : E ++ ((C0 ++ [c]) ++ C) = E ++ (C0 ++ c :: C) := by rw [List.append_assoc C0]; rfl
    obtain ⟨k1, k2⟩ := addConds_small hn h1 (C := C) (C0 := C0 ++ [c]) I' h' (by rw [eq]; exact lE) (by rw [eq]; exact bE) (by rw [List.length_append, List.length_singleton]; omega)
    refine ⟨fun j hj => ?_, k2⟩
    cases j with
    | zero => exact way_of h I hn h1 lP (fun p hp => bE p (by simp only [List.mem_append] at hp ⊢; rcases hp with hp | hp <;> simp [hp])) hk
    | succ j =>
      have := k1 j (by simpa using hj)
      rw [List.length_append, List.length_singleton, Nat.add_assoc, Nat.add_comm 1 j] at this
      exact this
/-- the builder of dual, at every step -/
theorem built_way {M : Nat} {E C : List Vec} (hn : n = 2 ∨ n = 3) (h1 : 1 ≤ M) (hE : Lens n E) (hC : Lens n C) (bE : ∀ e ∈ E, Bnd M e) (bC : ∀ c ∈ C, Bnd M c) :
    (∀ j, j ≤ E.length → Way n M (addEqs (E.take j) (start n)) 0) ∧ (∀ j, j ≤ C.length → Way n M (addConds (C.take j) (addEqs E (start n))) j) := by
  obtain ⟨k1, t, F, h⟩ := addEqs_small hn h1 (E := E) (E0 := []) (start_inv n) (Small.start n M) (by simpa using hE) (by simpa using bE)
  refine ⟨k1, ?_⟩
  have I := (addEqs_inv (start_inv n) hE)
  rw [List.nil_append] at I
  obtain ⟨k2, _⟩ := addConds_small hn h1 (C := C) (C0 := []) I.start h (by simp only [List.nil_append]; exact lens_app hE hC) (fun e he => by
    simp only [List.nil_append, List.mem_append] at he
    rcases he with he | he
    · exact bE e he
    · exact bC e he) (by rw [I.norays]; exact Nat.le_refl 0)
  intro j hj
  have := k2 j hj
  simpa using this

/-! ### the answers of dual are small -/
theorem cone_small {M : Nat} (h : Cone n E C L R) (hn : n = 2 ∨ n = 3) (h1 : 1 ≤ M) (lP : Lens n (E ++ C)) (bP : ∀ p ∈ E ++ C, Bnd M p) : (∀ l ∈ L, Bnd (2 * (M * M)) l) ∧ ∀ r ∈ R, Bnd (2 * (M * M)) r := by
  constructor
  · intro l hl
    have ll := h.ech.len l hl
    -- all conditions and the other rows' pivots
    refine fixes_small (U := (E ++ C) ++ (L.filter fun x => x != l).map fun x => unit n (pv x)) hn h1 (fun u hu => ?_) (fun u hu => ?_) ll (h.ech.prim l hl) ⟨fun u hu => ?_, fun w hw hu => ?_⟩
    · rcases List.mem_append.mp hu with hu | hu
      · exact lP u hu
      · obtain ⟨x, _, rfl⟩ := List.mem_map.mp hu
        exact unit_length n _
    · rcases List.mem_append.mp hu with hu | hu
      · exact bP u hu
      · obtain ⟨x, _, rfl⟩ := List.mem_map.mp hu
        exact (unit_bnd n _).mono h1
    · rcases List.mem_append.mp hu with hu | hu
      · exact h.zero u hu l hl
      · obtain ⟨x, hx, rfl⟩ := List.mem_map.mp hu
        obtain ⟨hxL, ne⟩ := List.mem_filter.mp hx
        rw [col_unit ll (h.ech.lt hxL)]
        exact h.ech.offv hl hxL (by simp at ne; exact fun q => ne q.symm)
    · have g : Gen n L [] w := (h.lines w).mpr ⟨hw, ⟨fun e he => hu e (by simp [he]), fun c hc => Int.le_of_eq (hu c (by simp [hc])).symm⟩, ⟨fun e he => by rw [dot_neg, hu e (by simp [he])]; rfl, fun c hc => by rw [dot_neg, hu c (by simp [hc])]; decide⟩⟩
      have s := h.ech.sup g hw
      have s2 : Gen n [l] [] w := s.mono (R' := []) (fun x hx => by
        obtain ⟨hxL, nz⟩ := List.mem_filter.mp hx
        have : x = l := Classical.byContradiction fun ne => by
          have := hu (unit n (pv x)) (List.mem_append_right _ (List.mem_map.mpr ⟨x, List.mem_filter.mpr ⟨hxL, by simpa using ne⟩, rfl⟩))
          rw [col_unit hw (h.ech.lt hxL)] at this
          rw [this] at nz
          simp at nz
        rw [this]
        exact ⟨.line (by simp), .nline (by simp)⟩) fun r hr => nomatch hr
      obtain ⟨a, b, ha, g3⟩ := gen_cons (F := []) (fun x hx => nomatch hx) ll s2
      have z := span_nil g3 (comb_len hw ll)
      refine ⟨a, b, ha, ext_dot (by simp [hw, ll]) fun q _ => ?_⟩
      have := congrArg (dot q) z
      rw [dot_comb _ _ _ (hw.trans ll.symm), dot_zeros] at this
      rw [dot_smul, dot_smul]; grind
  · intro r hr
    have lr := h.lenr r hr
    have sr := ((h.gen r).mp (.ray hr)).2
    have fx := ray_fixes (F := L.map fun x => unit n (pv x)) h.lensL lr lP (fun v hv s t => h.extreme hr hv s t) sr.1 sr.2 (fun u hu => by
      obtain ⟨x, _, rfl⟩ := List.mem_map.mp hu
      exact unit_length n _) (fun f hf => by
      obtain ⟨x, hx, rfl⟩ := List.mem_map.mp hf
      rw [col_unit lr (h.ech.lt hx)]
      exact h.piv0 r hr x hx) fun v g hz => by
        have hv := g.len (R := []) h.lensL (fun x hx => nomatch hx)
        refine h.ech.zero g hv fun k hk => ?_
        have := hz _ (List.mem_map_of_mem hk)
        rwa [col_unit hv (h.ech.lt hk)] at this
    refine fixes_small hn h1 (fun u hu => ?_) (fun u hu => ?_) lr (h.prim r hr) fx
    · rcases List.mem_append.mp hu with hu | hu
      · exact lP u (List.mem_filter.mp hu).1
      · obtain ⟨x, _, rfl⟩ := List.mem_map.mp hu
        exact unit_length n _
    · rcases List.mem_append.mp hu with hu | hu
      · exact bP u (List.mem_filter.mp hu).1
      · obtain ⟨x, _, rfl⟩ := List.mem_map.mp hu
        exact (unit_bnd n _).mono h1
theorem echStep_len (F : List Vec) (r : Vec) : (echStep F r).length ≤ F.length + 1 := by
  unfold echStep
  split
  · omega
  · simp
theorem echRaw_len : ∀ (rows F : List Vec), (rows.foldl echStep F).length ≤ F.length + rows.length
  | [], F => by simp
  | r :: rows, F => by
    rw [List.foldl_cons, List.length_cons]
    have := echRaw_len rows (echStep F r)
    have := echStep_len F r
    omega
theorem echelon_len (n : Nat) (rows : List Vec) : (echelon n rows).length ≤ rows.length := by
  unfold echelon
  rw [(List.mergeSort_perm _ _).length_eq]
  have := echRaw_len rows []
  simpa [echRaw] using this
/-- counts of dual's answer -/
theorem dual_count (hn : n = 2 ∨ n = 3) (hE : Lens n E) (hC : Lens n C) : (dual E C n).1.length ≤ n ∧ (dual E C n).2.length ≤ C.length := by
  -- some bound of the inputs
  have ex : ∀ X : List Vec, ∃ M, ∀ x ∈ X, Bnd M x := fun X => by
    induction X with
    | nil => exact ⟨0, fun x hx => nomatch hx⟩
    | cons x X ih =>
      obtain ⟨M, hM⟩ := ih
      refine ⟨M + need [x] (x.map fun y => if 0 ≤ y then 1 else -1) + (x.map Int.natAbs).sum, fun y hy => ?_⟩
      rcases List.mem_cons.mp hy with rfl | hy
      · intro z hz
        have : z.natAbs ≤ (y.map Int.natAbs).sum := by
          clear hM
          induction y with
          | nil => nomatch hz
          | cons a y ih2 =>
            rw [List.map_cons, List.sum_cons]
            rcases List.mem_cons.mp hz with rfl | hz
            · omega
            · have := ih2 (by simp) hz
              omega
        omega
      · exact (hM y hy).mono (by omega)
  obtain ⟨M, hM⟩ := ex (E ++ C)
  obtain ⟨_, k2⟩ := built_way (M := M + 1) hn (by omega) hE hC (fun e he => (hM e (by simp [he])).mono (by omega)) (fun c hc => (hM c (by simp [hc])).mono (by omega))
  have := k2 C.length (Nat.le_refl _)
  rw [List.take_length] at this
  constructor
  · exact Nat.le_trans (echelon_len n _) this.cntl
  · exact Nat.le_trans (dual_cone hE hC).2 this.cntr
end FM
end
section
set_option Elab.async false
set_option linter.all false
set_option maxRecDepth 100000
/-! Sizes of polyhedra, with no program. -/
namespace FM
variable {n : Nat} {u v w : Vec}
theorem bnd_horizon (n b : Nat) : Bnd (2 ^ b) (horizon n) := fun x hx => by
  have := Nat.one_le_two_pow (n := b)
  rcases List.mem_cons.mp hx with h | h
  · rw [h]; simpa using this
  · have := List.eq_of_mem_replicate h
    rw [this]; simp
theorem bnd_up {a b : Nat} (h : Bnd (2 ^ a) v) (e : a ≤ b) : Bnd (2 ^ b) v := h.mono (Nat.pow_le_pow_right (by decide) e)
theorem two_sq (b : Nat) : 2 * (2 ^ b * 2 ^ b) = 2 ^ (2 * b + 1) := by
  rw [← Nat.pow_add, ← Nat.pow_succ', show (b + b).succ = 2 * b + 1 by omega]
/-- the answer of dual is small -/
theorem cone_bits {E C L R : List Vec} {b : Nat} (D : Cone (n + 1) E (C ++ [horizon n]) L R) (h : n = 1 ∨ n = 2) (lE : Lens (n + 1) E) (lC : Lens (n + 1) C) (bE : ∀ x ∈ E, Bnd (2 ^ b) x) (bC : ∀ x ∈ C, Bnd (2 ^ b) x) :
    (∀ x ∈ L, Bnd (2 ^ (2 * b + 1)) x) ∧ ∀ x ∈ R, Bnd (2 ^ (2 * b + 1)) x := by
  have := cone_small D (by omega) (Nat.one_le_two_pow (n := b)) (lens_app lE (lens_horizon lC)) (fun p hp => by
    rcases List.mem_append.mp hp with a | a
    · exact bE p a
    · rcases List.mem_append.mp a with a | a
      · exact bC p a
      · rw [List.mem_singleton.mp a]; exact bnd_horizon n b)
  rwa [two_sq] at this
theorem same_dual {P : Poly} {E C : List Vec} (h : WF n P) (lE : Lens (n + 1) E) (lC : Lens (n + 1) C) (e : ∀ v, K n P v ↔ v.length = n + 1 ∧ Sat E (C ++ [horizon n]) v) :
    dual P.2.1 (P.2.2 ++ [horizon n]) (n + 1) = dual E (C ++ [horizon n]) (n + 1) := by
  have u := Cone.unique (dual_cone h.lens.1 (lens_horizon h.lens.2)).1 (dual_cone lE (lens_horizon lC)).1 fun v hv => ⟨fun s => ((e v).mp ⟨hv, s⟩).2, fun s => ((e v).mpr ⟨hv, s⟩).2⟩
  exact Prod.ext u.1 u.2
/-- P is described by at most k conditions of b bits -/
def Desc (n b k : Nat) (P : Poly) : Prop := WF n P ∧ ∃ E C, Lens (n + 1) E ∧ Lens (n + 1) C ∧ (∀ x ∈ E, Bnd (2 ^ b) x) ∧ (∀ x ∈ C, Bnd (2 ^ b) x) ∧ C.length ≤ k ∧ ∀ v, K n P v ↔ v.length = n + 1 ∧ Sat E (C ++ [horizon n]) v
theorem two_filters {α : Type} {p q : α → Bool} (h : ∀ x, p x = true → q x = true → False) : ∀ l : List α, (l.filter p).length + (l.filter q).length ≤ l.length
  | [] => by simp
  | x :: l => by
    have := two_filters h l
    rw [List.filter_cons, List.filter_cons]
    split
    · split
      · exact absurd ‹q x = true› fun z => h x ‹_› z
      · simp only [List.length_cons]; omega
    · split <;> simp only [List.length_cons] <;> omega
/-- small generators -/
structure GenB (n b k : Nat) (P : Poly) : Prop where
  sz : ∀ x ∈ (generators P).points ++ ((generators P).rays ++ (generators P).lines), x.length = n + 1 ∧ Bnd (2 ^ b) x
  cnt : (generators P).points.length + (generators P).rays.length ≤ k
  lin : (generators P).lines.length ≤ n + 1
theorem Desc.gens {b k : Nat} {P : Poly} (d : Desc n b k P) (h : n = 1 ∨ n = 2) : GenB n (2 * b + 1) (k + 1) P := by
  obtain ⟨w, E, C, lE, lC, bE, bC, ck, e⟩ := d
  have D := (dual_cone lE (lens_horizon lC)).1
  have S := cone_bits D h lE lC bE bC
  have N := dual_count (show n + 1 = 2 ∨ n + 1 = 3 by omega) lE (lens_horizon lC)
  rw [List.length_append, List.length_singleton] at N
  have e2 := same_dual w lE lC e
  have f := two_filters (p := fun r => decide (0 < col r 0)) (q := fun r => col r 0 == 0) (fun r a b => by simp at a b; omega) (dual E (C ++ [horizon n]) (n + 1)).2
  constructor
  · unfold generators
    rw [w.en, e2]
    intro x hx
    rcases List.mem_append.mp hx with a | a
    · have := (List.mem_filter.mp a).1; exact ⟨D.lenr x this, S.2 x this⟩
    · rcases List.mem_append.mp a with a | a
      · have := (List.mem_filter.mp a).1; exact ⟨D.lenr x this, S.2 x this⟩
      · exact ⟨D.lensL x a, S.1 x a⟩
  all_goals (unfold generators; rw [w.en, e2]; simp only; omega)
/-- small facets -/
structure FacB (n b k : Nat) (P : Poly) : Prop where
  wf : WF n P
  eqs : ∀ x ∈ P.2.1, Bnd (2 ^ b) x
  fac : ∀ x ∈ P.2.2, Bnd (2 ^ b) x
  ceq : P.2.1.length ≤ n + 1
  cfac : P.2.2.length ≤ k
theorem FacB.desc {b k : Nat} {P : Poly} (f : FacB n b k P) : Desc n b k P := ⟨f.wf, P.2.1, P.2.2, f.wf.lens.1, f.wf.lens.2, f.eqs, f.fac, f.cfac, fun v => Iff.rfl⟩
theorem facets {b : Nat} {P : Poly} {L R : List Vec} (w : WF n P) (g : GenOk n L R) (e : ∀ v, K n P v ↔ Gen (n + 1) L R v) (bL : ∀ x ∈ L, Bnd (2 ^ b) x) (bR : ∀ x ∈ R, Bnd (2 ^ b) x) (h : n = 1 ∨ n = 2) : FacB n (2 * b + 1) R.length P := by
  have e1 : P = settled n L R := w.unique ⟨L, R, g, rfl⟩ fun v => (e v).trans (settled_K g v).symm
  have lL := g.lensL
  have lR := g.lensR
  have D := (dual_cone lL lR).1
  have n3 : n + 1 = 2 ∨ n + 1 = 3 := by omega
  have S := cone_small D n3 (Nat.one_le_two_pow (n := b)) (lens_app lL lR) (fun x hx => (List.mem_append.mp hx).elim (bL x) (bR x))
  rw [two_sq] at S
  have N := dual_count n3 lL lR
  have f1 := List.length_filter_le (fun f => f != horizon n) (dual L R (n + 1)).2
  refine ⟨w, ?_, ?_, ?_, ?_⟩
  · rw [e1]; exact S.1
  · rw [e1]; exact fun x hx => S.2 x (List.mem_filter.mp hx).1
  · rw [e1]; exact N.1
  · rw [e1]; unfold settled; simp only; omega
theorem Desc.fac {b k : Nat} {P : Poly} (d : Desc n b k P) (h : n = 1 ∨ n = 2) : FacB n (4 * b + 3) (k + 1) P := by
  have g := d.gens h
  obtain ⟨G, gg, _⟩ := gen_spec d.1
  have f := facets (b := 2 * b + 1) d.1 G (fun v => (gg v).symm) (fun x hx => (g.sz x (by simp [hx])).2) (fun x hx => (g.sz x (by rcases List.mem_append.mp hx with a | a <;> simp [a])).2) h
  have := g.cnt
  exact ⟨f.wf, fun x hx => bnd_up (f.eqs x hx) (by omega), fun x hx => bnd_up (f.fac x hx) (by omega), f.ceq, by have := f.cfac; rw [List.length_append] at this; omega⟩
theorem Desc.up {b k c j : Nat} {P : Poly} (d : Desc n b k P) (hb : b ≤ c) (hk : k ≤ j) : Desc n c j P := by
  obtain ⟨w, E, C, lE, lC, bE, bC, ck, e⟩ := d
  exact ⟨w, E, C, lE, lC, fun x hx => bnd_up (bE x hx) hb, fun x hx => bnd_up (bC x hx) hb, by omega, e⟩
theorem Desc.poly {b k : Nat} {C : List Vec} {P : Poly} (lC : Lens (n + 1) C) (bC : ∀ x ∈ C, Bnd (2 ^ b) x) (ck : C.length ≤ k) (e : polyhedron n C [] = some P) : Desc n b k P := by
  have lE : Lens (n + 1) [] := (fun x hx => nomatch hx)
  obtain ⟨w, s⟩ := polyhedron_some lC lE e
  exact ⟨w, [], C, lE, lC, (fun x hx => nomatch hx), bC, ck, s⟩
theorem sat_more {E C D : List Vec} {h : Vec} : Sat E ((C ++ D) ++ [h]) v ↔ Sat E (C ++ [h]) v ∧ ∀ c ∈ D, 0 ≤ dot c v := by
  unfold Sat
  simp only [List.mem_append, List.mem_singleton]
  constructor
  · rintro ⟨a, b⟩
    exact ⟨⟨a, fun c hc => b c (hc.elim (fun q => .inl (.inl q)) .inr)⟩, fun c hc => b c (.inl (.inr hc))⟩
  · rintro ⟨⟨a, b⟩, d⟩
    refine ⟨a, fun c hc => ?_⟩
    rcases hc with (hc | hc) | hc
    · exact b c (.inl hc)
    · exact d c hc
    · exact b c (.inr hc)
theorem Desc.inside {b k : Nat} {inv : List Vec} {P Q : Poly} (d : Desc n b k P) (li : Lens (n + 1) inv) (bi : ∀ x ∈ inv, Bnd (2 ^ b) x) (e : inside n inv P = some Q) : Desc n b (k + inv.length) Q := by
  obtain ⟨w, s⟩ := inside_some li d.1 e
  obtain ⟨w2, E, C, lE, lC, bE, bC, ck, e2⟩ := d
  refine ⟨w, E, C ++ inv, lE, lens_app lC li, bE, fun x hx => (List.mem_append.mp hx).elim (bC x) (bi x), by rw [List.length_append]; omega, fun v => ?_⟩
  rw [s v, e2 v, sat_more]
  unfold holds
  exact ⟨fun ⟨⟨a, b⟩, c⟩ => ⟨a, b, c⟩, fun ⟨a, b, c⟩ => ⟨⟨a, b⟩, c⟩⟩
theorem Desc.ext {b k : Nat} {D : List Vec} {P : Poly} (d : Desc n b k P) (h : n = 1 ∨ n = 2) (hD : Dirs n D) (bD : ∀ x ∈ D, Bnd (2 ^ (2 * b + 1)) x) : FacB n (4 * b + 3) (k + 1 + D.length) (extended P D) := by
  obtain ⟨w, s⟩ := extended_spec d.1 hD
  have g := d.gens h
  obtain ⟨G, gg, ne, pp, rr⟩ := gen_spec d.1
  have GO : GenOk n (generators P).lines ((generators P).points ++ ((generators P).rays ++ D)) := by
    refine ⟨G.lensL, fun x hx => ?_, G.line0, fun x hx => ?_, ?_⟩
    · rcases List.mem_append.mp hx with a | a
      · exact G.lensR x (by simp [a])
      · rcases List.mem_append.mp a with a | a
        · exact G.lensR x (by simp [a])
        · exact (hD x a).1
    · rcases List.mem_append.mp hx with a | a
      · exact G.ray0 x (by simp [a])
      · rcases List.mem_append.mp a with a | a
        · exact G.ray0 x (by simp [a])
        · rw [(hD x a).2]; decide
    · obtain ⟨r, hr, p⟩ := G.point
      exact ⟨r, (List.mem_append.mp hr).elim (fun a => by simp [a]) (fun a => by simp [a]), p⟩
  have f := facets (b := 2 * b + 1) w GO s (fun x hx => (g.sz x (by simp [hx])).2) (fun x hx => by
    rcases List.mem_append.mp hx with a | a
    · exact (g.sz x (by simp [a])).2
    · rcases List.mem_append.mp a with a | a
      · exact (g.sz x (by simp [a])).2
      · exact bD x a) h
  have := g.cnt
  exact ⟨f.wf, fun x hx => bnd_up (f.eqs x hx) (by omega), fun x hx => bnd_up (f.fac x hx) (by omega), f.ceq, by have := f.cfac; simp only [List.length_append] at this; omega⟩
/-! ### one point -/
theorem gen_point {p : Vec} (hp : p.length = n) (g : Gen n [] [p] v) : v.length = n ∧ ∃ k a : Int, 0 < k ∧ 0 ≤ a ∧ smul k v = smul a p := by
  have l0 : Lens n [] := (fun x hx => nomatch hx)
  have lv := g.len l0 (fun x hx => by rw [List.mem_singleton.mp hx]; exact hp)
  obtain ⟨k, a, hk, ha, g2⟩ := g.one l0 hp
  have z := span_nil g2 (comb_len lv hp)
  refine ⟨lv, k, a, hk, ha, ext_dot (by simp [lv, hp]) fun w _ => ?_⟩
  have := congrArg (dot w) z
  rw [dot_comb _ _ _ (by rw [lv, hp]), dot_zeros] at this
  rw [dot_smul, dot_smul]
  have e : -a * dot w p = -(a * dot w p) := Int.neg_mul ..
  rw [e] at this
  omega
theorem smul_zero' (v : Vec) : smul 0 v = zeros v.length := by
  refine ext_dot (by simp) fun w _ => ?_
  rw [dot_smul, dot_zeros, Int.zero_mul]
theorem smul_cancel {k : Int} (hk : k ≠ 0) (h : smul k v = zeros v.length) : v = zeros v.length := by
  refine smul_inj hk ?_
  rw [h]
  refine ext_dot (by simp) fun w _ => ?_
  rw [dot_smul, dot_zeros, Int.mul_zero]
theorem bnd_zeros (M m : Nat) : Bnd M (zeros m) := fun x hx => by rw [List.eq_of_mem_replicate hx]; simp
theorem gen_point_bnd {p : Vec} {M : Nat} (hp : p.length = n) (hb : Bnd M p) (g : Gen n [] [p] v) (g1 : gcdL v = 1) : Bnd M v := by
  obtain ⟨lv, k, a, hk, ha, e⟩ := gen_point hp g
  by_cases a0 : a = 0
  · rw [a0, smul_zero', hp, ← lv] at e
    rw [smul_cancel (by omega) e]
    exact bnd_zeros _ _
  · by_cases gp : gcdL p = 0
    · have := gcdL_zero gp
      rw [this] at e
      have e2 : smul k v = zeros v.length := by
        rw [e, lv, ← hp]
        refine ext_dot (by simp) fun w _ => ?_
        rw [dot_smul, dot_zeros, Int.mul_zero]
      rw [smul_cancel (by omega) e2]
      exact bnd_zeros _ _
    · obtain ⟨g, hg, ep⟩ := primitive_spec p
      have : v = primitive p := prim_unique hk (Int.mul_pos (show 0 < a by omega) hg) g1 (primitive_gcd gp) (by rw [e, ← smul_smul, ← ep])
      rw [this]
      exact hb.primitive
theorem point_gens {p : Vec} {b : Nat} (h : n = 1 ∨ n = 2) (hp : p.length = n + 1) (h0 : 0 < col p 0) (hb : Bnd (2 ^ b) p) : FacB n (2 * b + 1) 1 (spanned n [p] [] []) ∧ GenB n b 2 (spanned n [p] [] []) := by
  obtain ⟨w, s⟩ := point_spec hp h0
  have GO : GenOk n [] [p] := ⟨(fun x hx => nomatch hx), fun x hx => by rw [List.mem_singleton.mp hx]; exact hp, (fun x hx => nomatch hx), fun x hx => by rw [List.mem_singleton.mp hx]; omega, p, by simp, h0⟩
  have f := facets w GO s (fun x hx => nomatch hx) (fun x hx => by rw [List.mem_singleton.mp hx]; exact hb) h
  have g := f.desc.gens h
  refine ⟨f, ⟨fun x hx => ⟨(g.sz x hx).1, ?_⟩, g.cnt, g.lin⟩⟩
  generalize spanned n [p] [] [] = P at *
  have D := (dual_cone w.lens.1 (lens_horizon w.lens.2)).1
  have ray : ∀ x ∈ (dual P.2.1 (P.2.2 ++ [horizon n]) (n + 1)).2, Bnd (2 ^ b) x := fun x hx => gen_point_bnd hp hb ((s x).mp ((D.gen x).mp (.ray hx))) (D.prim x hx)
  unfold generators at hx
  rw [w.en] at hx
  rcases List.mem_append.mp hx with a | a
  · exact ray x (List.mem_filter.mp a).1
  rcases List.mem_append.mp a with a | a
  · exact ray x (List.mem_filter.mp a).1
  · obtain ⟨G, gg, _⟩ := gen_spec w
    have a2 : x ∈ (generators P).lines := by unfold generators; rw [w.en]; exact a
    obtain ⟨lx, k, c, hk, hc, e⟩ := gen_point hp ((s x).mp ((D.gen x).mp (.line a)))
    have z := G.line0 x a2
    have : col (smul k x) 0 = col (smul c p) 0 := by rw [e]
    rw [col_smul lx (by omega), col_smul hp (by omega), z, Int.mul_zero] at this
    have c0 : c = 0 := by
      rcases Int.mul_eq_zero.mp this.symm with q | q
      · exact q
      · omega
    rw [c0, smul_zero', hp, ← lx] at e
    rw [smul_cancel (by omega) e]
    exact bnd_zeros _ _
/-- what a point and directions reach has small facets -/
theorem reach_fac {p : Vec} {D : List Vec} {b : Nat} (h : n = 1 ∨ n = 2) (hp : p.length = n + 1) (h0 : 0 < col p 0) (hD : Dirs n D) (hb : Bnd (2 ^ b) p) (bD : ∀ x ∈ D, Bnd (2 ^ b) x) : FacB n (2 * b + 1) (1 + D.length) (extended (spanned n [p] [] []) D) := by
  obtain ⟨w, s⟩ := point_spec hp h0
  have GO : GenOk n [] (p :: D) := ⟨(fun x hx => nomatch hx), fun x hx => by
    rcases List.mem_cons.mp hx with rfl | a
    · exact hp
    · exact (hD x a).1, (fun x hx => nomatch hx), fun x hx => by
    rcases List.mem_cons.mp hx with rfl | a
    · omega
    · rw [(hD x a).2]; decide, p, by simp, h0⟩
  have f := facets (extended_spec w hD).1 GO (fun v => reached hp h0 hD) (fun x hx => nomatch hx) (fun x hx => by
    rcases List.mem_cons.mp hx with rfl | a
    · exact hb
    · exact bD x a) h
  exact ⟨f.wf, f.eqs, f.fac, f.ceq, by have := f.cfac; simp only [List.length_cons] at this; omega⟩
theorem inside_point {p : Vec} {inv : List Vec} {Q : Poly} (hp : p.length = n + 1) (h0 : 0 < col p 0) (li : Lens (n + 1) inv) (hi : holds inv p) (e : inside n inv (spanned n [p] [] []) = some Q) : Q = spanned n [p] [] [] := by
  obtain ⟨w, s⟩ := point_spec hp h0
  obtain ⟨wQ, sQ⟩ := inside_some li w e
  refine wQ.unique w fun v => ⟨fun k => ((sQ v).mp k).1, fun k => (sQ v).mpr ⟨k, fun c hc => ?_⟩⟩
  obtain ⟨lv, k, a, hk, ha, e⟩ := gen_point hp ((s v).mp k)
  have := congrArg (dot c) e
  rw [dot_smul, dot_smul] at this
  have h1 : 0 ≤ a * dot c p := Int.mul_nonneg ha (hi c hc)
  rw [← this] at h1
  exact Int.nonneg_of_mul_nonneg_right h1 hk
end FM
end
section
set_option Elab.async false
set_option linter.all false
set_option maxRecDepth 100000
set_option maxHeartbeats 1000000
/-! Data in the heap, and what a reading evaluates to, over an environment of data. -/
namespace FW
open PySem L2 LamX
abbrev Avs := Addr → Prop
mutual
/-- v stands for the data d; none of its lists and tuples lies in Av -/
inductive DA (K : PySem.W.Frag) (Av : Avs) (H : Hp) : V → PyData → Prop
  | non : DA K Av H .non .none
  | bl (b : Bool) : DA K Av H (.bl b) (.bool b)
  | int (i : Int) : DA K Av H (.int i) (.int i)
  | str (x : Str) : DA K Av H (.str x) (.str x)
  | lst {a : Addr} {xs : List V} {ds : List PyData} : H a = some (.lst xs) → ¬ Av a → DAll K Av H xs ds → DA K Av H (.ref a) (.list ds)
  | tup {a : Addr} {xs : List V} {ds : List PyData} : H a = some (.tup xs) → ¬ Av a → DAll K Av H xs ds → DA K Av H (.ref a) (.tuple ds)
  | unit {a : Addr} : (∀ H', SqT K H' a []) → DA K Av H (.ref a) (.tuple [])
inductive DAll (K : PySem.W.Frag) (Av : Avs) (H : Hp) : List V → List PyData → Prop
  | nil : DAll K Av H [] []
  | cons {v : V} {vs : List V} {d : PyData} {ds : List PyData} : DA K Av H v d → DAll K Av H vs ds → DAll K Av H (v :: vs) (d :: ds)
end
variable {K : PySem.W.Frag} {Av Av' : Avs} {H H' H1 H2 : Hp}
mutual
theorem DA.map (hl : ∀ a xs, H a = some (.lst xs) → ¬ Av a → H' a = some (.lst xs) ∧ ¬ Av' a) (ht : ∀ a xs, H a = some (.tup xs) → ¬ Av a → H' a = some (.tup xs) ∧ ¬ Av' a) : ∀ (d : PyData) (v : V), DA K Av H v d → DA K Av' H' v d
  | _, _, .non => .non
  | _, _, .bl b => .bl b
  | _, _, .int i => .int i
  | _, _, .str x => .str x
  | _, _, .lst h n r => .lst (hl _ _ h n).1 (hl _ _ h n).2 (DAll.map hl ht _ _ r)
  | _, _, .tup h n r => .tup (ht _ _ h n).1 (ht _ _ h n).2 (DAll.map hl ht _ _ r)
  | _, _, .unit h => .unit h
theorem DAll.map (hl : ∀ a xs, H a = some (.lst xs) → ¬ Av a → H' a = some (.lst xs) ∧ ¬ Av' a) (ht : ∀ a xs, H a = some (.tup xs) → ¬ Av a → H' a = some (.tup xs) ∧ ¬ Av' a) : ∀ (ds : List PyData) (vs : List V), DAll K Av H vs ds → DAll K Av' H' vs ds
  | _, _, .nil => .nil
  | _, _, .cons h r => .cons (DA.map hl ht _ _ h) (DAll.map hl ht _ _ r)
end
theorem ext_lst {a : Addr} {xs : List V} (e : ExtN H H') (h : H a = some (.lst xs)) : H' a = some (.lst xs) := e _ _ h fun _ z => by cases z
theorem ext_tup {a : Addr} {xs : List V} (e : ExtN H H') (h : H a = some (.tup xs)) : H' a = some (.tup xs) := e _ _ h fun _ z => by cases z
theorem DA.ext {v : V} {d : PyData} (h : DA K Av H v d) (e : ExtN H H') : DA K Av H' v d := h.map (fun _ _ q n => ⟨ext_lst e q, n⟩) (fun _ _ q n => ⟨ext_tup e q, n⟩) _ _
theorem DAll.ext {vs : List V} {ds : List PyData} (h : DAll K Av H vs ds) (e : ExtN H H') : DAll K Av H' vs ds := h.map (fun _ _ q n => ⟨ext_lst e q, n⟩) (fun _ _ q n => ⟨ext_tup e q, n⟩) _ _
/-- fewer addresses to be avoided -/
theorem DA.weak {v : V} {d : PyData} (h : DA K Av H v d) (e : ∀ a, Av' a → Av a) : DA K Av' H v d := h.map (fun _ _ q n => ⟨q, fun z => n (e _ z)⟩) (fun _ _ q n => ⟨q, fun z => n (e _ z)⟩) _ _
theorem DAll.weak {vs : List V} {ds : List PyData} (h : DAll K Av H vs ds) (e : ∀ a, Av' a → Av a) : DAll K Av' H vs ds := h.map (fun _ _ q n => ⟨q, fun z => n (e _ z)⟩) (fun _ _ q n => ⟨q, fun z => n (e _ z)⟩) _ _
/-- not a thing that data are made of -/
def Fresh (H : Hp) (D : Addr) : Prop := ∀ o, H D = some o → ∃ ps, o = .tbl ps
theorem Fresh.of {D : Addr} (h : H D = none) : Fresh H D := fun o e => by rw [h] at e; cases e
theorem Fresh.back {D : Addr} (e : ExtN H H') (h : Fresh H' D) : Fresh H D := fun o q => by
  refine Classical.byContradiction fun no => ?_
  obtain ⟨ps, z⟩ := h o (e D o q fun ps z => no ⟨ps, z⟩)
  exact no ⟨ps, z⟩
/-- a fresh address more to be avoided -/
theorem DA.more {v : V} {d : PyData} {D : Addr} (h : DA K Av H v d) (f : Fresh H D) (e : ∀ a, Av' a → Av a ∨ a = D) : DA K Av' H v d :=
  h.map (fun a xs q n => ⟨q, fun z => (e a z).elim n fun z => by subst z; obtain ⟨ps, z⟩ := f _ q; cases z⟩) (fun a xs q n => ⟨q, fun z => (e a z).elim n fun z => by subst z; obtain ⟨ps, z⟩ := f _ q; cases z⟩) _ _
theorem DAll.more {vs : List V} {ds : List PyData} {D : Addr} (h : DAll K Av H vs ds) (f : Fresh H D) (e : ∀ a, Av' a → Av a ∨ a = D) : DAll K Av' H vs ds :=
  h.map (fun a xs q n => ⟨q, fun z => (e a z).elim n fun z => by subst z; obtain ⟨ps, z⟩ := f _ q; cases z⟩) (fun a xs q n => ⟨q, fun z => (e a z).elim n fun z => by subst z; obtain ⟨ps, z⟩ := f _ q; cases z⟩) _ _
/-- an avoided object changes -/
theorem DA.mut {v : V} {d : PyData} {D : Addr} {o : HO} (h : DA K Av H v d) (f : Av D ∨ ∀ xs, H D ≠ some (.lst xs) ∧ H D ≠ some (.tup xs)) : DA K Av (upd H D o) v d :=
  h.map (fun a xs q n => ⟨by rw [upd_ne fun z => by subst z; exact f.elim n fun f => (f xs).1 q]; exact q, n⟩) (fun a xs q n => ⟨by rw [upd_ne fun z => by subst z; exact f.elim n fun f => (f xs).2 q]; exact q, n⟩) _ _
theorem DAll.mut {vs : List V} {ds : List PyData} {D : Addr} {o : HO} (h : DAll K Av H vs ds) (f : Av D ∨ ∀ xs, H D ≠ some (.lst xs) ∧ H D ≠ some (.tup xs)) : DAll K Av (upd H D o) vs ds :=
  h.map (fun a xs q n => ⟨by rw [upd_ne fun z => by subst z; exact f.elim n fun f => (f xs).1 q]; exact q, n⟩) (fun a xs q n => ⟨by rw [upd_ne fun z => by subst z; exact f.elim n fun f => (f xs).2 q]; exact q, n⟩) _ _
theorem DAll.append : ∀ {vs us : List V} {ds es : List PyData}, DAll K Av H vs ds → DAll K Av H us es → DAll K Av H (vs ++ us) (ds ++ es)
  | _, _, _, _, .nil, h => h
  | _, _, _, _, .cons a b, h => .cons a (b.append h)
theorem DAll.length : ∀ {vs : List V} {ds : List PyData}, DAll K Av H vs ds → vs.length = ds.length
  | _, _, .nil => rfl
  | _, _, .cons _ b => congrArg Nat.succ b.length
theorem DAll.get : ∀ {vs : List V} {ds : List PyData} {i : Nat} {d : PyData}, DAll K Av H vs ds → ds[i]? = some d → ∃ v, vs[i]? = some v ∧ DA K Av H v d
  | _, _, i, d, .nil, h => by simp at h
  | _, _, 0, d, .cons a b, h => by simp at h; subst h; exact ⟨_, rfl, a⟩
  | _, _, i + 1, d, .cons a b, h => by
    obtain ⟨v, h1, h2⟩ := b.get (i := i) (d := d) (by simpa using h)
    exact ⟨v, by simpa using h1, h2⟩
theorem DAll.getV : ∀ {vs : List V} {ds : List PyData} {i : Nat} {v : V}, DAll K Av H vs ds → vs[i]? = some v → ∃ d, ds[i]? = some d ∧ DA K Av H v d
  | _, _, i, d, .nil, h => by simp at h
  | _, _, 0, d, .cons a b, h => by simp at h; subst h; exact ⟨_, rfl, a⟩
  | _, _, i + 1, d, .cons a b, h => by
    obtain ⟨v, h1, h2⟩ := b.getV (i := i) (v := d) (by simpa using h)
    exact ⟨v, by simpa using h1, h2⟩
theorem DAll.take : ∀ {vs : List V} {ds : List PyData} (n : Nat), DAll K Av H vs ds → DAll K Av H (vs.take n) (ds.take n)
  | _, _, 0, _ => .nil
  | _, _, n + 1, .nil => .nil
  | _, _, n + 1, .cons a b => .cons a (b.take n)
theorem DAll.drop : ∀ {vs : List V} {ds : List PyData} (n : Nat), DAll K Av H vs ds → DAll K Av H (vs.drop n) (ds.drop n)
  | _, _, 0, h => h
  | _, _, n + 1, .nil => .nil
  | _, _, n + 1, .cons a b => b.drop n
theorem DAll.set : ∀ {vs : List V} {ds : List PyData} {v : V} {d : PyData} (n : Nat), DA K Av H v d → DAll K Av H vs ds → DAll K Av H (vs.set n v) (ds.set n d)
  | _, _, _, _, _, _, .nil => .nil
  | _, _, _, _, 0, h, .cons a b => .cons h b
  | _, _, _, _, n + 1, h, .cons a b => .cons a (b.set n h)
theorem DAll.ints : ∀ {ns : List Int}, DAll K Av H (ns.map V.int) (ns.map PyData.int)
  | [] => .nil
  | n :: ns => .cons (.int n) DAll.ints
theorem DAll.ints_eq : ∀ {ns : List Int} {vs : List V}, DAll K Av H vs (ns.map PyData.int) → vs = ns.map V.int
  | [], _, .nil => rfl
  | n :: ns, _, .cons (.int _) b => by rw [DAll.ints_eq b]; rfl
theorem DAll.bools_eq : ∀ {ns : List Bool} {vs : List V}, DAll K Av H vs (ns.map PyData.bool) → vs = ns.map V.bl
  | [], _, .nil => rfl
  | n :: ns, _, .cons (.bl _) b => by rw [DAll.bools_eq b]; rfl
mutual
/-- to the layer's own data -/
theorem DA.dp : ∀ (d : PyData) (v : V), DA K Av H v d → Dp K H v d
  | _, _, .non => .non
  | _, _, .bl b => .bl b
  | _, _, .int i => .int i
  | _, _, .str x => .str x
  | _, _, .lst h n r => .lst (SqL.of h) (DAll.dp _ _ r)
  | _, _, .tup h n r => .tup (SqT.of h) (DAll.dp _ _ r)
  | _, _, .unit h => .tup (h _) .nil
theorem DAll.dp : ∀ (ds : List PyData) (vs : List V), DAll K Av H vs ds → DpAll K H vs ds
  | _, _, .nil => .nil
  | _, _, .cons h r => .cons (DA.dp _ _ h) (DAll.dp _ _ r)
end

/-! ### objects -/
/-- an object's fields hold the data (none: not told) -/
inductive Flds (K : PySem.W.Frag) (Av : Avs) (H : Hp) : List (Str × V) → List (Str × Option PyData) → Prop
  | nil : Flds K Av H [] []
  | one {n : Str} {v : V} {x : Option PyData} {fs : List (Str × V)} {fd : List (Str × Option PyData)} : (∀ y, x = some y → DA K Av H v y) → Flds K Av H fs fd → Flds K Av H ((n, v) :: fs) ((n, x) :: fd)
theorem Flds.map (h : ∀ v x, DA K Av H v x → DA K Av' H' v x) : ∀ {fs : List (Str × V)} {fd : List (Str × Option PyData)}, Flds K Av H fs fd → Flds K Av' H' fs fd
  | _, _, .nil => .nil
  | _, _, .one a b => .one (fun y e => h _ _ (a y e)) (b.map h)
theorem Flds.get : ∀ {fs : List (Str × V)} {fd : List (Str × Option PyData)} {n : Str} {x : PyData}, Flds K Av H fs fd → fd.lookup n = some (some x) → ∃ v, fs.lookup n = some v ∧ DA K Av H v x
  | _, _, n, x, .nil, h => by cases h
  | _, _, n, x, .one (n := m) a b, h => by
    rw [List.lookup_cons] at h ⊢
    split at h
    · cases h; exact ⟨_, rfl, a _ rfl⟩
    · exact b.get h
theorem Flds.no : ∀ {fs : List (Str × V)} {fd : List (Str × Option PyData)} {n : Str}, Flds K Av H fs fd → fd.lookup n = none → fs.lookup n = none
  | _, _, n, .nil, h => rfl
  | _, _, n, .one (n := m) a b, h => by
    rw [List.lookup_cons] at h ⊢
    split at h
    · cases h
    · exact b.no h
theorem Flds.len : ∀ {fs : List (Str × V)} {fd : List (Str × Option PyData)}, Flds K Av H fs fd → fs.length = fd.length
  | _, _, .nil => rfl
  | _, _, .one _ b => congrArg Nat.succ b.len
def putD (f : Str) (x : Option PyData) : List (Str × Option PyData) → List (Str × Option PyData)
  | [] => [(f, x)]
  | (g, y) :: r => if g = f then (g, x) :: r else (g, y) :: putD f x r
theorem Flds.put {f : Str} {v : V} {x : Option PyData} (h : ∀ y, x = some y → DA K Av H v y) : ∀ {fs : List (Str × V)} {fd : List (Str × Option PyData)}, Flds K Av H fs fd → Flds K Av H (putF f v fs) (putD f x fd)
  | _, _, .nil => .one h .nil
  | _, _, .one (n := m) a b => by
    unfold putF putD
    split
    · exact .one h b
    · exact .one a (b.put h)
/-! ### the environment -/
/-- an object that is only read, the one that the method may write, one that was made here -/
inductive Wr where
  | rd
  | me
  | mine
inductive Ent where
  | un
  | d (x : PyData)
  | own (xs : List PyData)
  | obj (C : Addr) (fd : List (Str × Option PyData)) (w : Wr)
abbrev En := List Ent
/-- the state of a def's body, as far as its names and their data go. Mu: what may change; Av0: what the caller wants avoided; H0: the heap at the entry; Av: what all data avoid now (the lists that are still being made too) -/
structure Sta (K : PySem.W.Frag) (T : List (Addr × Str)) (Mu Av0 : Avs) (H0 : Hp) (Av : Avs) (env : En) (σ : L2.St) (H : Hp) : Prop where
  gw : ∀ b o, H0 b = some o → (∀ ps, o ≠ .tbl ps) → ¬ Mu b → H b = some o
  mu : ∀ b, Mu b → ∃ C dx fs, H b = some (.ins C dx fs)
  tb : Tabs T H
  sub : ∀ a, Av0 a → Av a
  av : ∀ a, Av a → ∃ o, H a = some o ∧ ∀ ps, o ≠ .tbl ps
  len : σ.length = env.length
  dat : ∀ (i : Nat) (x : PyData), env[i]? = some (.d x) → ∃ v, σ[i]? = some (some v) ∧ DA K Av H v x
  own : ∀ (i : Nat) (xs : List PyData), env[i]? = some (.own xs) → ∃ l vs, σ[i]? = some (some (.ref l)) ∧ H l = some (.lst vs) ∧ DAll K Av H vs xs ∧ Av l ∧ ¬ Av0 l ∧ Fresh H0 l
  dis : ∀ (i j : Nat) (xs ys : List PyData) (l : Addr), env[i]? = some (.own xs) → env[j]? = some (.own ys) → σ[i]? = some (some (.ref l)) → σ[j]? = some (some (.ref l)) → i = j
  obj : ∀ (i : Nat) (C : Addr) (fd : List (Str × Option PyData)) (w : Wr), env[i]? = some (.obj C fd w) → ∃ o dx fs, σ[i]? = some (some (.ref o)) ∧ H o = some (.ins C dx fs) ∧ Flds K Av H fs fd ∧ (match w with
    | .rd => True
    | .me => Mu o ∧ ∀ b, Mu b → b = o
    | .mine => Fresh H0 o)
variable {T : List (Addr × Str)} {Mu Av0 : Avs} {H0 : Hp} {env env' : En} {σ : L2.St}
theorem Sta.grow (S : Sta K T Mu Av0 H0 Av env σ H) (e : ExtN H H') (t : Tabs T H') : Sta K T Mu Av0 H0 Av env σ H' where
  gw := fun b o h n m => e b o (S.gw b o h n m) n
  mu := fun b h => by
    obtain ⟨C, dx, fs, h⟩ := S.mu b h
    exact ⟨C, dx, fs, e b _ h fun ps z => by cases z⟩
  tb := t
  sub := S.sub
  av := fun a h => by
    obtain ⟨o, h1, h2⟩ := S.av a h
    exact ⟨o, e a o h1 h2, h2⟩
  len := S.len
  dat := fun i x h => by
    obtain ⟨v, h1, h2⟩ := S.dat i x h
    exact ⟨v, h1, h2.ext e⟩
  own := fun i xs h => by
    obtain ⟨l, vs, h1, h2, h3, h4⟩ := S.own i xs h
    exact ⟨l, vs, h1, ext_lst e h2, h3.ext e, h4⟩
  dis := S.dis
  obj := fun i C fd w h => by
    obtain ⟨o, dx, fs, h1, h2, h3, h4⟩ := S.obj i C fd w h
    exact ⟨o, dx, fs, h1, e _ _ h2 fun ps z => (by cases z), h3.map fun _ _ q => q.ext e, h4⟩
/-- in the environment env the reading gives the data x -/
def EvE (K : PySem.W.Frag) (T : List (Addr × Str)) (te : TE) (env : En) (x : PyData) : Prop := ∀ Mu Av0 H0 Av σ H, Sta K T Mu Av0 H0 Av env σ H → ∀ Q : VK, (∀ v H', ExtN H H' → Tabs T H' → DA K Av H' v x → Q v H') → te σ H Q
/-- .. a new list of xs -/
def EvN (K : PySem.W.Frag) (T : List (Addr × Str)) (te : TE) (env : En) (xs : List PyData) : Prop := ∀ Mu Av0 H0 Av σ H, Sta K T Mu Av0 H0 Av env σ H → ∀ Q : VK,
  (∀ D vs H', Fresh H D → ¬ Av D → ExtN H H' → Tabs T H' → H' D = some (.lst vs) → DAll K (fun a => Av a ∨ a = D) H' vs xs → Q (.ref D) H') → te σ H Q
def EvT (K : PySem.W.Frag) (T : List (Addr × Str)) (tt : TT) (env : En) (b : Bool) : Prop := ∀ Mu Av0 H0 Av σ H, Sta K T Mu Av0 H0 Av env σ H → ∀ Q : Bool → Hp → Prop, (∀ H', ExtN H H' → Tabs T H' → Q b H') → tt σ H Q
def EvA (K : PySem.W.Frag) (T : List (Addr × Str)) (ta : TA) (env : En) (xs : List PyData) : Prop := ∀ Mu Av0 H0 Av σ H, Sta K T Mu Av0 H0 Av env σ H → ∀ Q : List V → Hp → Prop, (∀ vs H', ExtN H H' → Tabs T H' → DAll K Av H' vs xs → Q vs H') → ta σ H Q
def EvO (K : PySem.W.Frag) (T : List (Addr × Str)) (to : TO) (env : En) (o : Option Int) : Prop := ∀ Mu Av0 H0 Av σ H, Sta K T Mu Av0 H0 Av env σ H → ∀ Q : Option Int → Hp → Prop, (∀ H', ExtN H H' → Tabs T H' → Q o H') → to σ H Q
section
variable {te ta tb : TE} {tt uu : TT} {x y z : PyData} {xs ys : List PyData}
theorem EvN.e (h : EvN K T te env xs) : EvE K T te env (.list xs) := fun Mu Av0 H0 Av σ H S Q q => h Mu Av0 H0 Av σ H S Q fun D vs H' f n e t hD r => q _ _ e t (.lst hD n (r.weak fun _ z => .inl z))
theorem ev_var {i : Nat} (h : env[i]? = some (.d x)) : EvE K T (tVar i) env x := fun Mu Av0 H0 Av σ H S Q q => by
  obtain ⟨v, h1, h2⟩ := S.dat i x h
  exact ⟨v, h1, q v H (ExtN.refl H) S.tb h2⟩
theorem ev_int {i : Int} : EvE K T (tC (.int i)) env (.int i) := fun Mu Av0 H0 Av σ H S Q q => q _ H (ExtN.refl H) S.tb (.int i)
theorem ev_bl {b : Bool} : EvE K T (tC (.bl b)) env (.bool b) := fun Mu Av0 H0 Av σ H S Q q => q _ H (ExtN.refl H) S.tb (.bl b)
theorem ev_non : EvE K T (tC .non) env .none := fun Mu Av0 H0 Av σ H S Q q => q _ H (ExtN.refl H) S.tb .non
theorem ev_str {b : Str} : EvE K T (tC (.str b)) env (.str b) := fun Mu Av0 H0 Av σ H S Q q => q _ H (ExtN.refl H) S.tb (.str b)
theorem ev_eq (h : EvE K T te env x) (e : x = y) : EvE K T te env y := e ▸ h
theorem et_eq {b c : Bool} (h : EvT K T tt env b) (e : b = c) : EvT K T tt env c := e ▸ h
/-- two operands, by data -/
def OpD (K : PySem.W.Frag) (T : List (Addr × Str)) (r : R2) (x y z : PyData) : Prop := ∀ Av H v u, (∀ a, Av a → ∃ o, H a = some o ∧ ∀ ps, o ≠ .tbl ps) → Tabs T H → DA K Av H v x → DA K Av H u y → ∀ Q : VK, (∀ w H', ExtN H H' → Tabs T H' → DA K Av H' w z → Q w H') → r v u H Q
theorem ev_op {r : R2} (ha : EvE K T ta env x) (hb : EvE K T tb env y) (hr : OpD K T r x y z) : EvE K T (tOp r ta tb) env z := fun Mu Av0 H0 Av σ H S Q q =>
  ha _ _ _ _ _ _ S _ fun v H1 e1 t1 d1 => hb _ _ _ _ _ _ (S.grow e1 t1) _ fun u H2 e2 t2 d2 => hr Av H2 v u (S.grow (e1.trans e2) t2).av t2 (d1.ext e2) d2 Q fun w H3 e3 t3 d3 => q w H3 ((e1.trans e2).trans e3) t3 d3
theorem op_I0 {g : Int → Int → V} {i j : Int} {z : PyData} (hz : ∀ (K : PySem.W.Frag) Av H, DA K Av H (g i j) z) : OpD K T (rI0 g) (.int i) (.int j) z := fun Av H v u _ t dv du Q q => by
  cases dv; cases du
  exact ⟨i, j, rfl, rfl, q _ H (ExtN.refl H) t (hz _ _ _)⟩
theorem op_I {C : Int → Int → Prop} {g : Int → Int → V} {i j : Int} {z : PyData} (hc : C i j) (hz : ∀ (K : PySem.W.Frag) Av H, DA K Av H (g i j) z) : OpD K T (rI C g) (.int i) (.int j) z := fun Av H v u _ t dv du Q q => by
  cases dv; cases du
  exact ⟨i, j, rfl, rfl, hc, q _ H (ExtN.refl H) t (hz _ _ _)⟩
theorem op_add {i j : Int} : OpD K T (rI0 fun i j => .int (i + j)) (.int i) (.int j) (.int (i + j)) := op_I0 fun _ _ _ => .int _
theorem op_sub {i j : Int} : OpD K T (rI0 fun i j => .int (i - j)) (.int i) (.int j) (.int (i - j)) := op_I0 fun _ _ _ => .int _
theorem op_mul {i j : Int} (h : CMulW i j) : OpD K T (rI CMulW fun i j => .int (i * j)) (.int i) (.int j) (.int (i * j)) := op_I h fun _ _ _ => .int _
theorem op_div {i j : Int} (h : CDivW i j) : OpD K T (rI CDivW fun i j => .int (i / j)) (.int i) (.int j) (.int (i / j)) := op_I h fun _ _ _ => .int _
theorem op_scal {x y : PyData} {i j : V} (hi : ∀ (K : PySem.W.Frag) Av H v, DA K Av H v x → v = i) (hj : ∀ (K : PySem.W.Frag) Av H v, DA K Av H v y → v = j) (s : scal i j = true) : OpD K T rEq x y (.bool (decide (i = j))) := fun Av H v u _ t dv du Q q => by
  rw [hi _ _ _ _ dv, hj _ _ _ _ du]
  exact ⟨s, q _ H (ExtN.refl H) t (.bl _)⟩
theorem op_eqI {i j : Int} : OpD K T rEq (.int i) (.int j) (.bool (decide (i = j))) := fun Av H v u _ t dv du Q q => by
  cases dv; cases du
  have e : decide (V.int i = V.int j) = decide (i = j) := by
    by_cases h : i = j
    · rw [h]; simp
    · rw [decide_eq_false h, decide_eq_false (fun z => h (V.int.inj z))]
  refine ⟨rfl, ?_⟩
  rw [e]
  exact q _ H (ExtN.refl H) t (.bl _)
theorem op_neI {i j : Int} : OpD K T rNe (.int i) (.int j) (.bool (!decide (i = j))) := fun Av H v u _ t dv du Q q => by
  cases dv; cases du
  have e : decide (V.int i = V.int j) = decide (i = j) := by
    by_cases h : i = j
    · rw [h]; simp
    · rw [decide_eq_false h, decide_eq_false (fun z => h (V.int.inj z))]
  refine ⟨rfl, ?_⟩
  rw [e]
  exact q _ H (ExtN.refl H) t (.bl _)
theorem ev_un {r : V → Hp → VK → Prop} {g : Int → V} {i : Int} {z : PyData} (ha : EvE K T ta env (.int i)) (hz : ∀ (K : PySem.W.Frag) Av H, DA K Av H (g i) z) : EvE K T (tUn (rU g) ta) env z := fun Mu Av0 H0 Av σ H S Q q =>
  ha _ _ _ _ _ _ S _ fun v H1 e1 t1 d1 => by
    cases d1
    exact ⟨i, rfl, q _ H1 e1 t1 (hz _ _ _)⟩
theorem ev_neg {i : Int} (ha : EvE K T ta env (.int i)) : EvE K T (tUn (rU fun i => .int (-i)) ta) env (.int (-i)) := ev_un (r := rU fun i => .int (-i)) ha fun _ _ _ => .int _
/-- a seq's item -/
theorem op_ixL {ds : List PyData} {i : Int} {x : PyData} (h : atI ds i = some x) : OpD K T (rIxL K) (.list ds) (.int i) x := fun Av H v u _ t dv du Q q => by
  cases du
  cases dv with
  | lst hl n r =>
    unfold atI at h
    rw [Option.bind_eq_some_iff] at h
    obtain ⟨j, h1, h2⟩ := h
    obtain ⟨v, h3, h4⟩ := r.get h2
    exact ⟨_, _, i, v, rfl, rfl, SqL.of hl, by unfold atI; rw [r.length, h1]; exact h3, q v H (ExtN.refl H) t h4⟩
theorem op_ixT {ds : List PyData} {i : Int} {x : PyData} (h : atI ds i = some x) : OpD K T (rIxT K) (.tuple ds) (.int i) x := fun Av H v u _ t dv du Q q => by
  cases du
  cases dv with
  | tup hl n r =>
    unfold atI at h
    rw [Option.bind_eq_some_iff] at h
    obtain ⟨j, h1, h2⟩ := h
    obtain ⟨v, h3, h4⟩ := r.get h2
    exact ⟨_, _, i, v, rfl, rfl, SqT.of hl, by unfold atI; rw [r.length, h1]; exact h3, q v H (ExtN.refl H) t h4⟩
  | unit hu => simp [atI] at h
theorem at_nat {α : Type} {ds : List α} {i : Nat} {x : α} (h : ds[i]? = some x) : atI ds (i : Int) = some x := atI_nat h
/-- tests -/
theorem et_test {b : Bool} (h : EvE K T te env (.bool b)) : EvT K T (tTest te) env b := fun Mu Av0 H0 Av σ H S Q q => h _ _ _ _ _ _ S _ fun v H1 e1 t1 d1 => by
  cases d1
  exact ⟨b, rfl, q H1 e1 t1⟩
theorem et_B {b : Bool} (h : EvE K T te env (.bool b)) : EvT K T (tB te) env b := fun Mu Av0 H0 Av σ H S Q q => h _ _ _ _ _ _ S _ fun v H1 e1 t1 d1 => by
  cases d1
  exact ⟨b, rfl, q H1 e1 t1⟩
theorem et_and {a b : Bool} (h1 : EvT K T tt env a) (h2 : a = true → EvT K T uu env b) : EvT K T (tAnd tt uu) env (a && b) := fun Mu Av0 H0 Av σ H S Q q => h1 _ _ _ _ _ _ S _ fun H1 e1 t1 => by
  cases a with
  | true => exact h2 rfl _ _ _ _ _ _ (S.grow e1 t1) Q fun H2 e2 t2 => q H2 (e1.trans e2) t2
  | false => exact q H1 e1 t1
theorem et_or {a b : Bool} (h1 : EvT K T tt env a) (h2 : a = false → EvT K T uu env b) : EvT K T (tOr tt uu) env (a || b) := fun Mu Av0 H0 Av σ H S Q q => h1 _ _ _ _ _ _ S _ fun H1 e1 t1 => by
  cases a with
  | false => exact h2 rfl _ _ _ _ _ _ (S.grow e1 t1) Q fun H2 e2 t2 => q H2 (e1.trans e2) t2
  | true => exact q H1 e1 t1
theorem et_not {a : Bool} (h1 : EvT K T tt env a) : EvT K T (tNot tt) env (!a) := fun Mu Av0 H0 Av σ H S Q q => h1 _ _ _ _ _ _ S _ fun H1 e1 t1 => q H1 e1 t1
theorem ev_and {a b : Bool} (h1 : EvE K T ta env (.bool a)) (h2 : a = true → EvE K T tb env (.bool b)) : EvE K T (tAndV ta tb) env (.bool (a && b)) := fun Mu Av0 H0 Av σ H S Q q => h1 _ _ _ _ _ _ S _ fun v H1 e1 t1 d1 => by
  cases d1
  refine ⟨a, rfl, ?_⟩
  cases a with
  | true => exact h2 rfl _ _ _ _ _ _ (S.grow e1 t1) Q fun w H2 e2 t2 d2 => q w H2 (e1.trans e2) t2 d2
  | false => exact q _ H1 e1 t1 (.bl _)
theorem ev_not {a : Bool} (h1 : EvE K T ta env (.bool a)) : EvE K T (tNotV ta) env (.bool (!a)) := fun Mu Av0 H0 Av σ H S Q q => h1 _ _ _ _ _ _ S _ fun v H1 e1 t1 d1 => by
  cases d1
  exact ⟨a, rfl, q _ H1 e1 t1 (.bl _)⟩
theorem ev_if {c : Bool} (h : EvT K T tt env c) (h1 : c = true → EvE K T ta env x) (h2 : c = false → EvE K T tb env x) : EvE K T (tIf tt ta tb) env x := fun Mu Av0 H0 Av σ H S Q q => h _ _ _ _ _ _ S _ fun H1 e1 t1 => by
  cases c with
  | true => exact h1 rfl _ _ _ _ _ _ (S.grow e1 t1) Q fun w H2 e2 t2 d2 => q w H2 (e1.trans e2) t2 d2
  | false => exact h2 rfl _ _ _ _ _ _ (S.grow e1 t1) Q fun w H2 e2 t2 d2 => q w H2 (e1.trans e2) t2 d2
theorem ev_isN {b : Bool} (h : EvE K T ta env x) (hb : b = (match x with | .none => true | _ => false)) : EvE K T (tIsN ta) env (.bool b) := fun Mu Av0 H0 Av σ H S Q q => h _ _ _ _ _ _ S _ fun v H1 e1 t1 d1 => by
  have : decide (v = V.non) = b := by
    rw [hb]
    cases d1 <;> first | rfl | (refine decide_eq_false ?_; intro z; cases z)
  rw [this]
  exact q _ H1 e1 t1 (.bl _)
theorem ev_notN {b : Bool} (h : EvE K T ta env x) (hb : b = (match x with | .none => false | _ => true)) : EvE K T (tNotN ta) env (.bool b) := fun Mu Av0 H0 Av σ H S Q q => h _ _ _ _ _ _ S _ fun v H1 e1 t1 d1 => by
  have : (!decide (v = V.non)) = b := by
    rw [hb]
    cases d1 <;> first | rfl | (refine (congrArg (!·) (decide_eq_false ?_)).trans rfl; intro z; cases z)
  rw [this]
  exact q _ H1 e1 t1 (.bl _)
/-- arguments -/
theorem ea_nil : EvA K T tNil env [] := fun Mu Av0 H0 Av σ H S Q q => q [] H (ExtN.refl H) S.tb .nil
theorem ea_cons {tr : TA} (h : EvE K T te env x) (hr : EvA K T tr env xs) : EvA K T (tCons te tr) env (x :: xs) := fun Mu Av0 H0 Av σ H S Q q =>
  h _ _ _ _ _ _ S _ fun v H1 e1 t1 d1 => hr _ _ _ _ _ _ (S.grow e1 t1) _ fun vs H2 e2 t2 d2 => q _ H2 (e1.trans e2) t2 (.cons (d1.ext e2) d2)
/-- displays -/
theorem new_of {o : HO} {p : Addr} (h : H p = none) : ExtN H (upd H p o) := fun b u e _ => by rw [upd_ne (ne_of_none e h)]; exact e
theorem tabs_new {o : HO} {p : Addr} (t : Tabs T H) (h : H p = none) : Tabs T (upd H p o) := t.ext fun b u e => by rw [upd_ne (ne_of_none e h)]; exact e
theorem not_av {p : Addr} (av : ∀ a, Av a → ∃ o, H a = some o ∧ ∀ ps, o ≠ .tbl ps) (h : H p = none) : ¬ Av p := fun z => by
  obtain ⟨o, e, _⟩ := av p z
  rw [h] at e; cases e
theorem en_lst {ta : TA} (h : EvA K T ta env xs) (hz : xs.length ≤ 100000) : EvN K T (tLst ta) env xs := fun Mu Av0 H0 Av σ H S Q q => h _ _ _ _ _ _ S _ fun vs H1 e1 t1 d1 =>
  ⟨by rw [d1.length]; exact Nat.le_trans hz (by decide), fun p hp => q p vs _ ((Fresh.of hp).back e1) (not_av (S.grow e1 t1).av hp) (e1.trans (new_of hp)) (tabs_new t1 hp) upd_same ((d1.more (Fresh.of hp) (fun _ z => z)).ext (new_of hp))⟩
end
end FW
end
section
set_option Elab.async false
set_option linter.all false
set_option maxRecDepth 100000
set_option maxHeartbeats 1000000
/-! Statements, loops, comprehensions, calls, over environments of data. -/
namespace FW
open PySem L2 LamX
variable {K : PySem.W.Frag} {T : List (Addr × Str)} {Mu Av0 Av Av' : Avs} {H0 H H' H1 H2 : Hp} {env env' : En} {σ σ' : L2.St}
/-- the lists and tuples that data may lie in stay -/
structure Pres (Av : Avs) (H : Hp) (Av' : Avs) (H' : Hp) : Prop where
  l : ∀ a xs, H a = some (.lst xs) → ¬ Av a → H' a = some (.lst xs) ∧ ¬ Av' a
  t : ∀ a xs, H a = some (.tup xs) → ¬ Av a → H' a = some (.tup xs) ∧ ¬ Av' a
theorem Pres.refl (Av : Avs) (H : Hp) : Pres Av H Av H := ⟨fun _ _ h n => ⟨h, n⟩, fun _ _ h n => ⟨h, n⟩⟩
theorem Pres.trans {Av2 : Avs} (a : Pres Av H Av' H') (b : Pres Av' H' Av2 H2) : Pres Av H Av2 H2 := ⟨fun x xs h n => b.l x xs (a.l x xs h n).1 (a.l x xs h n).2, fun x xs h n => b.t x xs (a.t x xs h n).1 (a.t x xs h n).2⟩
theorem Pres.ext (e : ExtN H H') : Pres Av H Av H' := ⟨fun _ _ h n => ⟨ext_lst e h, n⟩, fun _ _ h n => ⟨ext_tup e h, n⟩⟩
theorem Pres.da {v : V} {d : PyData} (p : Pres Av H Av' H') (h : DA K Av H v d) : DA K Av' H' v d := h.map p.l p.t _ _
theorem Pres.dall {v : List V} {d : List PyData} (p : Pres Av H Av' H') (h : DAll K Av H v d) : DAll K Av' H' v d := h.map p.l p.t _ _

inductive Out where
  | rt (x : PyData) (ob : Option (Addr × List (Str × Option PyData)))
  | nx (e : En)
  | ct (e : En)
  | bk (e : En)
abbrev Out.ret (x : PyData) : Out := .rt x none
/-- what the written object holds at the end -/
def ObAt (K : PySem.W.Frag) (Mu Av0 : Avs) (H' : Hp) : Option (Addr × List (Str × Option PyData)) → Prop
  | none => True
  | some (C, fd) => ∀ o, Mu o → ∃ dx fs, H' o = some (.ins C dx fs) ∧ Flds K Av0 H' fs fd
/-- what is wanted behind, by the outcome -/
def Goes (K : PySem.W.Frag) (T : List (Addr × Str)) (Mu Av0 : Avs) (H0 : Hp) (Av : Avs) (H : Hp) (D : Ends) : Out → Prop
  | .rt x ob => ∀ v H', (∀ b o, H0 b = some o → (∀ ps, o ≠ .tbl ps) → ¬ Mu b → H' b = some o) → Tabs T H' → DA K Av0 H' v x → ObAt K Mu Av0 H' ob → D.rt v H'
  | .nx e => ∀ Av' σ' H', Sta K T Mu Av0 H0 Av' e σ' H' → Pres Av H Av' H' → D.nx σ' H'
  | .ct e => ∀ Av' σ' H', Sta K T Mu Av0 H0 Av' e σ' H' → Pres Av H Av' H' → D.ct σ' H'
  | .bk e => ∀ Av' σ' H', Sta K T Mu Av0 H0 Av' e σ' H' → Pres Av H Av' H' → D.bk σ' H'
def Run (K : PySem.W.Frag) (T : List (Addr × Str)) (ts : TS) (env : En) (o : Out) : Prop :=
  ∀ Mu Av0 H0 Av σ H D, Sta K T Mu Av0 H0 Av env σ H → Goes K T Mu Av0 H0 Av H D o → ts D σ H
theorem Goes.pres {D : Ends} {o : Out} (g : Goes K T Mu Av0 H0 Av H D o) (p : Pres Av H Av' H') : Goes K T Mu Av0 H0 Av' H' D o := by
  cases o with
  | rt x ob => exact g
  | nx e => exact fun a s h S q => g a s h S (p.trans q)
  | ct e => exact fun a s h S q => g a s h S (p.trans q)
  | bk e => exact fun a s h S q => g a s h S (p.trans q)
/-- a slot is set to data -/
theorem Sta.set {i : Nat} {v : V} {x : PyData} (S : Sta K T Mu Av0 H0 Av env σ H) (h : DA K Av H v x) (hi : i < env.length) : Sta K T Mu Av0 H0 Av (env.set i (.d x)) (σ.set i (some v)) H where
  gw := S.gw
  mu := S.mu
  tb := S.tb
  sub := S.sub
  av := S.av
  len := by rw [List.length_set, List.length_set]; exact S.len
  dat := fun j y hj => by
    by_cases e : i = j
    · subst e
      rw [List.getElem?_set_self hi] at hj
      cases hj
      exact ⟨v, by rw [List.getElem?_set_self (by rw [S.len]; exact hi)], h⟩
    · rw [List.getElem?_set_ne e] at hj ⊢
      exact S.dat j y hj
  own := fun j y hj => by
    by_cases e : i = j
    · subst e; rw [List.getElem?_set_self hi] at hj; cases hj
    · rw [List.getElem?_set_ne e] at hj ⊢; exact S.own j y hj
  dis := fun j k xs ys l hj hk a b => by
    by_cases e : i = j
    · subst e; rw [List.getElem?_set_self hi] at hj; cases hj
    · by_cases e2 : i = k
      · subst e2; rw [List.getElem?_set_self hi] at hk; cases hk
      · rw [List.getElem?_set_ne e] at hj a
        rw [List.getElem?_set_ne e2] at hk b
        exact S.dis j k xs ys l hj hk a b
  obj := fun j C fd w hj => by
    by_cases e : i = j
    · subst e; rw [List.getElem?_set_self hi] at hj; cases hj
    · rw [List.getElem?_set_ne e] at hj ⊢; exact S.obj j C fd w hj
/-- a slot is forgotten (and may hold anything) -/
theorem Sta.drop {i : Nat} {o : Option V} (S : Sta K T Mu Av0 H0 Av env σ H) (hi : i < env.length) : Sta K T Mu Av0 H0 Av (env.set i .un) (σ.set i o) H where
  gw := S.gw
  mu := S.mu
  tb := S.tb
  sub := S.sub
  av := S.av
  len := by rw [List.length_set, List.length_set]; exact S.len
  dat := fun j y hj => by
    by_cases e : i = j
    · subst e; rw [List.getElem?_set_self hi] at hj; cases hj
    · rw [List.getElem?_set_ne e] at hj ⊢; exact S.dat j y hj
  own := fun j y hj => by
    by_cases e : i = j
    · subst e; rw [List.getElem?_set_self hi] at hj; cases hj
    · rw [List.getElem?_set_ne e] at hj ⊢; exact S.own j y hj
  dis := fun j k xs ys l hj hk a b => by
    by_cases e : i = j
    · subst e; rw [List.getElem?_set_self hi] at hj; cases hj
    · by_cases e2 : i = k
      · subst e2; rw [List.getElem?_set_self hi] at hk; cases hk
      · rw [List.getElem?_set_ne e] at hj a
        rw [List.getElem?_set_ne e2] at hk b
        exact S.dis j k xs ys l hj hk a b
  obj := fun j C fd w hj => by
    by_cases e : i = j
    · subst e; rw [List.getElem?_set_self hi] at hj; cases hj
    · rw [List.getElem?_set_ne e] at hj ⊢; exact S.obj j C fd w hj
theorem Sta.forget {i : Nat} (S : Sta K T Mu Av0 H0 Av env σ H) : Sta K T Mu Av0 H0 Av (env.set i .un) σ H := by
  by_cases hi : i < env.length
  · have := S.drop (i := i) (o := σ.getD i none) hi
    have e : σ.set i (σ.getD i none) = σ := by
      refine List.ext_getElem (by simp) fun k h1 h2 => ?_
      rw [List.getElem_set]
      split
      · rename_i e; subst e; rw [List.getD_eq_getElem?_getD, List.getElem?_eq_getElem h2]; rfl
      · rfl
    rw [e] at this
    exact this
  · rw [List.set_eq_of_length_le (by omega)]
    exact S
/-- a slot is set to a new list that is still to grow -/
theorem Sta.setN {i : Nat} {D : Addr} {vs : List V} {xs : List PyData} (S : Sta K T Mu Av0 H0 Av env σ H) (e : ExtN H H') (t : Tabs T H') (hf : Fresh H D) (hn : ¬ Av D) (hD : H' D = some (.lst vs)) (r : DAll K (fun a => Av a ∨ a = D) H' vs xs) (hi : i < env.length) :
    Sta K T Mu Av0 H0 (fun a => Av a ∨ a = D) (env.set i (.own xs)) (σ.set i (some (.ref D))) H' where
  gw := (S.grow e t).gw
  mu := (S.grow e t).mu
  tb := t
  sub := fun a h => .inl (S.sub a h)
  av := fun a h => by
    rcases h with h | rfl
    · exact (S.grow e t).av a h
    · exact ⟨_, hD, fun ps z => by cases z⟩
  len := by rw [List.length_set, List.length_set]; exact S.len
  dat := fun j y hj => by
    by_cases e2 : i = j
    · subst e2; rw [List.getElem?_set_self hi] at hj; cases hj
    · rw [List.getElem?_set_ne e2] at hj ⊢
      obtain ⟨v, h1, h2⟩ := S.dat j y hj
      exact ⟨v, h1, (h2.more hf fun _ z => z).ext e⟩
  own := fun j y hj => by
    by_cases e2 : i = j
    · subst e2; rw [List.getElem?_set_self hi] at hj; cases hj
      exact ⟨D, vs, by rw [List.getElem?_set_self (by rw [S.len]; exact hi)], hD, r, .inr rfl, fun z => hn (S.sub _ z), fun o q => by
        refine Classical.byContradiction fun no => ?_
        by_cases hm : Mu D
        · obtain ⟨C, dx, fs, z⟩ := S.mu D hm
          obtain ⟨ps, z2⟩ := hf _ z
          cases z2
        · obtain ⟨ps, z⟩ := hf o (S.gw D o q (fun ps z => no ⟨ps, z⟩) hm)
          exact no ⟨ps, z⟩⟩
    · rw [List.getElem?_set_ne e2] at hj ⊢
      obtain ⟨l, us, h1, h2, h3, h4, h5, h6⟩ := S.own j y hj
      exact ⟨l, us, h1, ext_lst e h2, (h3.more hf fun _ z => z).ext e, .inl h4, h5, h6⟩
  dis := fun j k xs ys l hj hk a b => by
    have ne : ∀ (m : Nat) (zs : List PyData), env[m]? = some (Ent.own zs) → σ[m]? = some (some (V.ref D)) → False := fun m zs h1 h2 => by
      obtain ⟨l, us, q1, _, _, q4, _⟩ := S.own m zs h1
      rw [h2] at q1; cases q1
      exact hn q4
    by_cases e1 : i = j
    · by_cases e2 : i = k
      · omega
      · subst e1
        rw [List.getElem?_set_self (by rw [S.len]; exact hi)] at a; cases a
        rw [List.getElem?_set_ne e2] at hk b
        exact (ne k ys hk b).elim
    · rw [List.getElem?_set_ne e1] at hj a
      by_cases e2 : i = k
      · subst e2
        rw [List.getElem?_set_self (by rw [S.len]; exact hi)] at b; cases b
        exact (ne j xs hj a).elim
      · rw [List.getElem?_set_ne e2] at hk b
        exact S.dis j k xs ys l hj hk a b
  obj := fun j C fd w hj => by
    by_cases e2 : i = j
    · subst e2; rw [List.getElem?_set_self hi] at hj; cases hj
    · rw [List.getElem?_set_ne e2] at hj ⊢
      obtain ⟨o, dx, fs, h1, h2, h3, h4⟩ := S.obj j C fd w hj
      exact ⟨o, dx, fs, h1, e _ _ h2 fun ps z => (by cases z), h3.map fun _ _ q => (q.more hf fun _ z => z).ext e, h4⟩
/-- an own list grows -/
theorem Sta.app {i l : Nat} {vs ws : List V} {xs ys : List PyData} (S : Sta K T Mu Av0 H0 Av env σ H) (hi : env[i]? = some (.own xs)) (hl : σ[i]? = some (some (.ref l))) (hz : H l = some (.lst vs)) (r : DAll K Av H ws ys) :
    Sta K T Mu Av0 H0 Av (env.set i (.own ys)) σ (upd H l (.lst ws)) := by
  obtain ⟨l', us, q1, q2, q3, q4, q5, q6⟩ := S.own i xs hi
  rw [hl] at q1; cases q1
  have hlt : i < env.length := (List.getElem?_eq_some_iff.mp hi).1
  have tabl : ∀ p ∈ T, p.1 ≠ l := fun p hp e => by
    obtain ⟨ps, h1, _⟩ := S.tb p hp
    rw [e, hz] at h1; cases h1
  refine ⟨fun b o h n m => ?_, fun b h => ?_, fun p hp => ?_, S.sub, fun a h => ?_, by rw [List.length_set]; exact S.len, fun j y hj => ?_, fun j y hj => ?_, fun j k as bs m hj hk a b => ?_, fun j C fd w hj => ?_⟩
  · rw [upd_ne fun z => by subst z; obtain ⟨ps, z⟩ := q6 o h; exact n ps z]
    exact S.gw b o h n m
  · obtain ⟨C, dx, fs, q⟩ := S.mu b h
    exact ⟨C, dx, fs, by rw [upd_ne fun z => by subst z; rw [hz] at q; cases q]; exact q⟩
  · obtain ⟨ps, h1, h2, h3⟩ := S.tb p hp
    refine ⟨ps, by rw [upd_ne (tabl p hp)]; exact h1, h2, fun pos cv hc => ?_⟩
    obtain ⟨c, e1, e2⟩ := h3 pos cv hc
    exact ⟨c, e1, by rw [upd_ne fun z => by subst z; rw [hz] at e2; unfold CodeO at e2; cases e2]; exact e2⟩
  · by_cases e : a = l
    · subst e; exact ⟨_, upd_same, fun ps z => by cases z⟩
    · rw [upd_ne e]; exact S.av a h
  · by_cases e : i = j
    · subst e; rw [List.getElem?_set_self hlt] at hj; cases hj
    · rw [List.getElem?_set_ne e] at hj
      obtain ⟨v, h1, h2⟩ := S.dat j y hj
      exact ⟨v, h1, h2.mut (.inl q4)⟩
  · by_cases e : i = j
    · subst e; rw [List.getElem?_set_self hlt] at hj; cases hj
      exact ⟨l, ws, hl, upd_same, r.mut (.inl q4), q4, q5, q6⟩
    · rw [List.getElem?_set_ne e] at hj
      obtain ⟨m, zs, h1, h2, h3, h4⟩ := S.own j y hj
      have ne : m ≠ l := fun z => e (S.dis i j xs y m hi hj (by rw [z]; exact hl) h1)
      exact ⟨m, zs, h1, by rw [upd_ne ne]; exact h2, h3.mut (.inl q4), h4⟩
  · have back : ∀ {k : Nat} {cs : List PyData}, (env.set i (.own ys))[k]? = some (.own cs) → ∃ ds, env[k]? = some (.own ds) := fun {k cs} h => by
      by_cases e : i = k
      · subst e; exact ⟨xs, hi⟩
      · rw [List.getElem?_set_ne e] at h; exact ⟨cs, h⟩
    obtain ⟨as', ha⟩ := back hj
    obtain ⟨bs', hb⟩ := back hk
    exact S.dis j k as' bs' m ha hb a b
  · by_cases e : i = j
    · subst e; rw [List.getElem?_set_self hlt] at hj; cases hj
    · rw [List.getElem?_set_ne e] at hj
      obtain ⟨o, dx, fs, h1, h2, h3, h4⟩ := S.obj j C fd w hj
      exact ⟨o, dx, fs, h1, by rw [upd_ne fun z => by subst z; rw [hz] at h2; cases h2]; exact h2, h3.map fun _ _ q => q.mut (.inl q4), h4⟩
/-- an own list becomes data -/
theorem Sta.freeze {i : Nat} {xs : List PyData} (S : Sta K T Mu Av0 H0 Av env σ H) (hi : env[i]? = some (.own xs)) : ∃ Av', Sta K T Mu Av0 H0 Av' (env.set i (.d (.list xs))) σ H ∧ Pres Av H Av' H := by
  obtain ⟨l, us, q1, q2, q3, q4, q5, q6⟩ := S.own i xs hi
  have hlt : i < env.length := (List.getElem?_eq_some_iff.mp hi).1
  have wk : ∀ a, (Av a ∧ a ≠ l) → Av a := fun a h => h.1
  refine ⟨fun a => Av a ∧ a ≠ l, ⟨S.gw, S.mu, S.tb, fun a h => ⟨S.sub a h, fun z => q5 (z ▸ h)⟩, fun a h => S.av a h.1, by rw [List.length_set]; exact S.len, fun j y hj => ?_, fun j y hj => ?_, fun j k as bs m hj hk a b => ?_, fun j C fd w hj => ?_⟩,
    ⟨fun a xs h n => ⟨h, fun z => n z.1⟩, fun a xs h n => ⟨h, fun z => n z.1⟩⟩⟩
  · by_cases e : i = j
    · subst e; rw [List.getElem?_set_self hlt] at hj; cases hj
      exact ⟨.ref l, q1, .lst q2 (fun z => z.2 rfl) (q3.weak wk)⟩
    · rw [List.getElem?_set_ne e] at hj
      obtain ⟨v, h1, h2⟩ := S.dat j y hj
      exact ⟨v, h1, h2.weak wk⟩
  · by_cases e : i = j
    · subst e; rw [List.getElem?_set_self hlt] at hj; cases hj
    · rw [List.getElem?_set_ne e] at hj
      obtain ⟨m, zs, h1, h2, h3, h4, h5⟩ := S.own j y hj
      exact ⟨m, zs, h1, h2, h3.weak wk, ⟨h4, fun z => e (S.dis i j xs y m hi hj (by rw [z]; exact q1) h1)⟩, h5⟩
  · by_cases e : i = j
    · subst e; rw [List.getElem?_set_self hlt] at hj; cases hj
    · by_cases e2 : i = k
      · subst e2; rw [List.getElem?_set_self hlt] at hk; cases hk
      · rw [List.getElem?_set_ne e] at hj
        rw [List.getElem?_set_ne e2] at hk
        exact S.dis j k as bs m hj hk a b
  · by_cases e : i = j
    · subst e; rw [List.getElem?_set_self hlt] at hj; cases hj
    · rw [List.getElem?_set_ne e] at hj
      obtain ⟨o, dx, fs, h1, h2, h3, h4⟩ := S.obj j C fd w hj
      exact ⟨o, dx, fs, h1, h2, h3.map fun _ _ q => q.weak wk, h4⟩

/-! ### statements -/
section
variable {te ta tb : TE} {c : TT} {t u : TS} {x y : PyData} {xs : List PyData} {i : Nat} {o : Out}
theorem run_set (h : EvE K T te env x) (hi : i < env.length) : Run K T (tAsg te (gName i)) env (.nx (env.set i (.d x))) := fun Mu Av0 H0 Av σ H D S g =>
  h _ _ _ _ _ _ S _ fun v H1 e1 t1 d1 => g _ _ _ ((S.grow e1 t1).set d1 hi) (Pres.ext e1)
theorem run_setN (h : EvN K T te env xs) (hi : i < env.length) : Run K T (tAsg te (gName i)) env (.nx (env.set i (.own xs))) := fun Mu Av0 H0 Av σ H D S g =>
  h _ _ _ _ _ _ S _ fun l vs H1 f n e1 t1 hD r => g _ _ _ (S.setN e1 t1 f n hD r hi)
    ⟨fun a ys q m => ⟨ext_lst e1 q, fun z => z.elim m fun z => by subst z; obtain ⟨ps, z⟩ := f _ q; cases z⟩, fun a ys q m => ⟨ext_tup e1 q, fun z => z.elim m fun z => by subst z; obtain ⟨ps, z⟩ := f _ q; cases z⟩⟩
theorem run_ret (h : EvE K T te env x) : Run K T (tRet te) env (.ret x) := fun Mu Av0 H0 Av σ H D S g =>
  h _ _ _ _ _ _ S _ fun v H1 e1 t1 d1 => g v H1 (S.grow e1 t1).gw t1 (d1.weak S.sub) trivial
theorem run_retN : Run K T tRetN env (.ret .none) := fun Mu Av0 H0 Av σ H D S g => g _ H S.gw S.tb .non trivial
theorem run_drop (h : EvE K T te env x) : Run K T (tDrop te) env (.nx env) := fun Mu Av0 H0 Av σ H D S g =>
  h _ _ _ _ _ _ S _ fun v H1 e1 t1 d1 => g _ _ _ (S.grow e1 t1) (Pres.ext e1)
theorem run_next : Run K T tNext env (.nx env) := fun Mu Av0 H0 Av σ H D S g => g _ _ _ S (Pres.refl _ _)
theorem run_cont : Run K T tCont env (.ct env) := fun Mu Av0 H0 Av σ H D S g => g _ _ _ S (Pres.refl _ _)
theorem run_break : Run K T tBreak env (.bk env) := fun Mu Av0 H0 Av σ H D S g => g _ _ _ S (Pres.refl _ _)
theorem run_seq (h1 : Run K T t env (.nx env')) (h2 : Run K T u env' o) : Run K T (tSeq t u) env o := fun Mu Av0 H0 Av σ H D S g =>
  h1 _ _ _ _ _ _ _ S fun Av' σ' H' S' p => h2 _ _ _ _ _ _ _ S' (g.pres p)
theorem run_seqR {ob : Option (Addr × List (Str × Option PyData))} (h1 : Run K T t env (.rt x ob)) : Run K T (tSeq t u) env (.rt x ob) := fun Mu Av0 H0 Av σ H D S g => h1 _ _ _ _ _ _ _ S g
theorem run_seqC (h1 : Run K T t env (.ct env')) : Run K T (tSeq t u) env (.ct env') := fun Mu Av0 H0 Av σ H D S g => h1 _ _ _ _ _ _ _ S g
theorem run_seqB (h1 : Run K T t env (.bk env')) : Run K T (tSeq t u) env (.bk env') := fun Mu Av0 H0 Av σ H D S g => h1 _ _ _ _ _ _ _ S g
theorem run_if {b : Bool} (h : EvT K T c env b) (h1 : b = true → Run K T t env o) (h2 : b = false → Run K T u env o) : Run K T (tIfS c t u) env o := fun Mu Av0 H0 Av σ H D S g =>
  h _ _ _ _ _ _ S _ fun H1 e1 t1 => by
    cases b with
    | true => exact h1 rfl _ _ _ _ _ _ _ (S.grow e1 t1) (g.pres (Pres.ext e1))
    | false => exact h2 rfl _ _ _ _ _ _ _ (S.grow e1 t1) (g.pres (Pres.ext e1))
theorem run_freeze (hi : env[i]? = some (.own xs)) (h : Run K T t (env.set i (.d (.list xs))) o) : Run K T t env o := fun Mu Av0 H0 Av σ H D S g => by
  obtain ⟨Av', S', p⟩ := S.freeze hi
  exact h _ _ _ _ _ _ _ S' (g.pres p)
theorem run_forget (j : Nat) (h : Run K T t (env.set j .un) o) : Run K T t env o := fun Mu Av0 H0 Av σ H D S g => h _ _ _ _ _ _ _ S.forget g
theorem run_then (h : Run K T t env (.nx env')) (k : ∀ Mu Av0 H0 Av σ H, Sta K T Mu Av0 H0 Av env' σ H → ∃ Av', Sta K T Mu Av0 H0 Av' env σ H ∧ Pres Av H Av' H) : True := trivial
/-- the end of a run, forgotten in part -/
theorem run_endF (j : Nat) (h : Run K T t env (.nx env')) : Run K T t env (.nx (env'.set j .un)) := fun Mu Av0 H0 Av σ H D S g => h _ _ _ _ _ _ _ S fun a s q S' p => g _ _ _ S'.forget p
theorem run_ctF (j : Nat) (h : Run K T t env (.ct env')) : Run K T t env (.ct (env'.set j .un)) := fun Mu Av0 H0 Av σ H D S g => h _ _ _ _ _ _ _ S fun a s q S' p => g _ _ _ S'.forget p
theorem run_endZ (hi : env'[i]? = some (.own xs)) (h : Run K T t env (.nx env')) : Run K T t env (.nx (env'.set i (.d (.list xs)))) := fun Mu Av0 H0 Av σ H D S g => h _ _ _ _ _ _ _ S fun a s q S' p => by
  obtain ⟨Av', S2, p2⟩ := S'.freeze hi
  exact g _ _ _ S2 (p.trans p2)
theorem run_eq {o' : Out} (h : Run K T t env o) (e : o = o') : Run K T t env o' := e ▸ h
theorem run_app (hi : env[i]? = some (.own xs)) (h : EvE K T te env x) (hz : xs.length < 100000) : Run K T (tDrop (tBM K "list" rAppend (tVar i) (tCons te tNil))) env (.nx (env.set i (.own (xs ++ [x])))) := fun Mu Av0 H0 Av σ H D S g => by
  obtain ⟨l, vs, q1, q2, q3, q4, q5, q6⟩ := S.own i xs hi
  refine ⟨.ref l, q1, .inl ⟨rfl, _, SqL.of q2⟩, h _ _ _ _ _ _ S _ fun v H1 e1 t1 d1 => ?_⟩
  have S1 := S.grow e1 t1
  refine ⟨l, vs, v, rfl, rfl, ext_lst e1 q2, by rw [q3.length]; exact Nat.lt_of_lt_of_le hz (by decide), ?_⟩
  refine g _ _ _ (S1.app hi q1 (ext_lst e1 q2) ((q3.ext e1).append (.cons d1 .nil))) ?_
  refine ⟨fun a ys q m => ⟨?_, m⟩, fun a ys q m => ⟨?_, m⟩⟩
  · rw [upd_ne fun z => by subst z; exact m q4]; exact ext_lst e1 q
  · rw [upd_ne fun z => by subst z; exact m q4]; exact ext_tup e1 q
/-- xs[k] = e of an own list -/
theorem run_setItem {k : Nat} {ti : TE} (hi : env[i]? = some (.own xs)) (h : EvE K T te env x) (hk : EvE K T ti env (.int (k : Int))) (hz : k < xs.length) : Run K T (tAsg te (gSub (tVar i) ti rSetL)) env (.nx (env.set i (.own (xs.set k x)))) := fun Mu Av0 H0 Av σ H D S g => by
  obtain ⟨l, vs, q1, q2, q3, q4, q5, q6⟩ := S.own i xs hi
  refine h _ _ _ _ _ _ S _ fun v H1 e1 t1 d1 => ⟨.ref l, q1, hk _ _ _ _ _ _ (S.grow e1 t1) _ fun w H2 e2 t2 d2 => ?_⟩
  cases d2
  have S2 := S.grow (e1.trans e2) t2
  refine ⟨l, vs, k, k, rfl, rfl, ext_lst (e1.trans e2) q2, ?_, ?_⟩
  · unfold ixN
    rw [if_pos (by omega), if_pos (by rw [q3.length]; omega)]
    simp
  · refine g _ _ _ (S2.app hi q1 (ext_lst (e1.trans e2) q2) ((q3.ext (e1.trans e2)).set k (d1.ext e2))) ?_
    refine ⟨fun a ys q m => ⟨?_, m⟩, fun a ys q m => ⟨?_, m⟩⟩
    · rw [upd_ne fun z => by subst z; exact m q4]; exact ext_lst (e1.trans e2) q
    · rw [upd_ne fun z => by subst z; exact m q4]; exact ext_tup (e1.trans e2) q
/-- a scalar that is read off an own list -/
theorem ev_thaw (hi : env[i]? = some (.own xs)) (h : EvE K T te (env.set i (.d (.list xs))) x) (hx : ∀ (Av Av' : Avs) H v, DA K Av H v x → DA K Av' H v x) : EvE K T te env x := fun Mu Av0 H0 Av σ H S Q q => by
  obtain ⟨Av', S', p⟩ := S.freeze hi
  exact h _ _ _ _ _ _ S' Q fun v H1 e1 t1 d1 => q v H1 e1 t1 (hx _ _ _ _ d1)
theorem et_thaw {b : Bool} (hi : env[i]? = some (.own xs)) (h : EvT K T c (env.set i (.d (.list xs))) b) : EvT K T c env b := fun Mu Av0 H0 Av σ H S Q q => by
  obtain ⟨Av', S', p⟩ := S.freeze hi
  exact h _ _ _ _ _ _ S' Q q
theorem thaw_int {i : Int} (Av Av' : Avs) (H : Hp) (v : V) (h : DA K Av H v (.int i)) : DA K Av' H v (.int i) := by cases h; exact .int i
theorem thaw_bl {i : Bool} (Av Av' : Avs) (H : Hp) (v : V) (h : DA K Av H v (.bool i)) : DA K Av' H v (.bool i) := by cases h; exact .bl i
end
end FW
end
section
set_option Elab.async false
set_option linter.all false
set_option maxRecDepth 100000
set_option maxHeartbeats 1000000
/-! Walked things, loops, comprehensions, calls of defs, over environments of data. -/
namespace FW
open PySem L2 LamX
variable {K : PySem.W.Frag} {T : List (Addr × Str)} {Mu Av0 Av Av' : Avs} {H0 H H' H1 H2 : Hp} {env env' : En} {σ σ' : L2.St}
/-- J yields the items one after another, whatever is done meanwhile that leaves the data -/
def Walks (K : PySem.W.Frag) (T : List (Addr × Str)) (J : It) (items : List PyData) (Av : Avs) (H : Hp) : Prop :=
  ∀ (i : Nat) (Av2 : Avs) (H2 : Hp), Pres Av H Av2 H2 → Tabs T H2 → (∀ a, Av2 a → ∃ o, H2 a = some o ∧ ∀ ps, o ≠ .tbl ps) →
    (∀ x, items[i]? = some x → J.go i H2 ∧ ∀ v H3, J.yld i H2 v H3 → ExtN H2 H3 ∧ Tabs T H3 ∧ DA K Av2 H3 v x) ∧ (items.length ≤ i → J.stop i H2)
def EvI (K : PySem.W.Frag) (T : List (Addr × Str)) (wi : TI) (env : En) (items : List PyData) : Prop := ∀ Mu Av0 H0 Av σ H, Sta K T Mu Av0 H0 Av env σ H → ∀ R : It → Hp → Prop,
  (∀ J H', ExtN H H' → Tabs T H' → Walks K T J items Av H' → R J H') → wi σ H R
theorem Pres.list {a : Addr} {xs : List PyData} (p : Pres Av H Av' H') (h : DA K Av H (.ref a) (.list xs)) : ∃ vs, H a = some (.lst vs) ∧ H' a = some (.lst vs) ∧ DAll K Av' H' vs xs := by
  cases h with
  | lst h n r => exact ⟨_, h, (p.l _ _ h n).1, p.dall r⟩
theorem sqL_uniq {a : Addr} {xs ys : List V} (h : H a = some (.lst xs)) (q : SqL K H a ys) (hk : ∀ o, K.lookup a = some o → H a = none) : ys = xs := by
  rcases q with (q | ⟨o, q⟩) | ⟨o, its, n, q, _⟩
  · rw [h] at q; cases q; rfl
  · rw [h] at q; cases q
  · rw [hk o q] at h; cases h
section
variable {te : TE} {ta : TA} {wi : TI} {x y : PyData} {xs ys : List PyData}
/-- a list -/
theorem ei_list (h : EvE K T te env (.list xs)) : EvI K T (iList K te) env xs := fun Mu Av0 H0 Av σ H S R q => h _ _ _ _ _ _ S _ fun v H1 e1 t1 d1 => by
  cases d1 with
  | @lst a vs _ h1 n r =>
    refine ⟨a, rfl, ⟨vs, SqL.of h1⟩, q _ _ e1 t1 fun i Av2 H2 p t2 av2 => ⟨fun x hx => ?_, fun hle => ?_⟩⟩
    · obtain ⟨u, hu, du⟩ := (p.dall r).get hx
      refine ⟨⟨vs, u, SqL.of (p.l _ _ h1 n).1, hu⟩, fun v H3 hy => ?_⟩
      obtain ⟨rfl, hv⟩ := hy
      have := hv vs (SqL.of (p.l _ _ h1 n).1)
      rw [hu] at this; cases this
      exact ⟨ExtN.refl _, t2, du⟩
    · exact ⟨vs, SqL.of (p.l _ _ h1 n).1, by rw [r.length]; exact hle⟩
/-- a range from 0, from lo -/
theorem ei_range1 {n : Int} (h : EvA K T ta env [.int n]) (hn : n < 1000000) (hn0 : -1000000 ≤ n) : EvI K T (iRng1 ta) env ((List.range n.toNat).map fun i => .int (i : Nat)) := fun Mu Av0 H0 Av σ H S R q => h _ _ _ _ _ _ S _ fun vs H1 e1 t1 d1 => by
  cases d1 with
  | cons d r =>
    cases d; cases r
    refine ⟨n, rfl, by omega, by omega, q _ _ e1 t1 fun i Av2 H2 p t2 av2 => ⟨fun x hx => ?_, fun hle => ?_⟩⟩
    · rw [List.getElem?_map, Option.map_eq_some_iff] at hx
      obtain ⟨j, hj, rfl⟩ := hx
      obtain ⟨h1, h2⟩ := List.getElem?_eq_some_iff.mp hj
      rw [List.getElem_range] at h2
      rw [List.length_range] at h1
      refine ⟨h1, fun v H3 hy => ?_⟩
      obtain ⟨rfl, rfl⟩ := hy
      rw [h2]
      refine ⟨ExtN.refl _, t2, ?_⟩
      have : (0 : Int) + (j : Int) = (j : Int) := by omega
      rw [this]; exact .int _
    · rw [List.length_map, List.length_range] at hle
      exact hle
theorem ei_range2 {lo n : Int} (h : EvA K T ta env [.int lo, .int n]) (hl : -1000000 < lo ∧ lo < 1000000) (hn : n < 1000000) (hn0 : -1000000 ≤ n) : EvI K T (iRng2 ta) env ((List.range (n - lo).toNat).map fun i => .int (lo + (i : Nat))) := fun Mu Av0 H0 Av σ H S R q => h _ _ _ _ _ _ S _ fun vs H1 e1 t1 d1 => by
  cases d1 with
  | cons d r =>
    cases d
    cases r with
    | cons d r =>
      cases d; cases r
      refine ⟨lo, n, rfl, by omega, q _ _ e1 t1 fun i Av2 H2 p t2 av2 => ⟨fun x hx => ?_, fun hle => ?_⟩⟩
      · rw [List.getElem?_map, Option.map_eq_some_iff] at hx
        obtain ⟨j, hj, rfl⟩ := hx
        obtain ⟨h1, h2⟩ := List.getElem?_eq_some_iff.mp hj
        rw [List.getElem_range] at h2
        rw [List.length_range] at h1
        refine ⟨h1, fun v H3 hy => ?_⟩
        obtain ⟨rfl, rfl⟩ := hy
        rw [h2]
        exact ⟨ExtN.refl _, t2, .int _⟩
      · rw [List.length_map, List.length_range] at hle
        exact hle
/-- zip of two lists -/
theorem ei_zip (h : EvA K T ta env [.list xs, .list ys]) : EvI K T (iZip K ta) env ((xs.zip ys).map fun p => .tuple [p.1, p.2]) := fun Mu Av0 H0 Av σ H S R q => h _ _ _ _ _ _ S _ fun vs H1 e1 t1 d1 => by
  cases d1 with
  | cons d r =>
    cases d with
    | @lst a us _ h1 n1 r1 =>
      cases r with
      | cons d r =>
        cases r
        cases d with
        | @lst b ws _ h2 n2 r2 =>
          refine ⟨a, b, us, ws, rfl, SqL.of h1, SqL.of h2, q _ _ e1 t1 fun i Av2 H2 p t2 av2 => ⟨fun x hx => ?_, fun hle => ?_⟩⟩
          · rw [List.getElem?_map, Option.map_eq_some_iff] at hx
            obtain ⟨pr, hp, rfl⟩ := hx
            rw [List.getElem?_zip_eq_some] at hp
            obtain ⟨u1, hu1, du1⟩ := (p.dall r1).get hp.1
            obtain ⟨u2, hu2, du2⟩ := (p.dall r2).get hp.2
            refine ⟨⟨us, ws, u1, u2, SqL.of (p.l _ _ h1 n1).1, SqL.of (p.l _ _ h2 n2).1, hu1, hu2⟩, fun v H3 hy => ?_⟩
            obtain ⟨Tt, x', y', rfl, hT, rfl, hx', hy'⟩ := hy
            have q1 := hx' us (SqL.of (p.l _ _ h1 n1).1)
            have q2 := hy' ws (SqL.of (p.l _ _ h2 n2).1)
            rw [hu1] at q1; cases q1
            rw [hu2] at q2; cases q2
            exact ⟨new_of hT, tabs_new t2 hT, .tup upd_same (not_av av2 hT) (.cons (du1.ext (new_of hT)) (.cons (du2.ext (new_of hT)) .nil))⟩
          · refine ⟨us, ws, SqL.of (p.l _ _ h1 n1).1, SqL.of (p.l _ _ h2 n2).1, ?_⟩
            rw [List.length_map, List.length_zip] at hle
            rw [r1.length, r2.length]
            omega
/-- enumerate -/
theorem ei_enum (h : EvA K T ta env [.list xs]) : EvI K T (iEnum K ta) env (xs.zipIdx.map fun p => .tuple [.int (p.2 : Nat), p.1]) := fun Mu Av0 H0 Av σ H S R q => h _ _ _ _ _ _ S _ fun vs H1 e1 t1 d1 => by
  cases d1 with
  | cons d r =>
    cases r
    cases d with
    | @lst a us _ h1 n1 r1 =>
      refine ⟨a, us, rfl, SqL.of h1, q _ _ e1 t1 fun i Av2 H2 p t2 av2 => ⟨fun x hx => ?_, fun hle => ?_⟩⟩
      · rw [List.getElem?_map, Option.map_eq_some_iff] at hx
        obtain ⟨pr, hp, rfl⟩ := hx
        rw [List.getElem?_zipIdx, Option.map_eq_some_iff] at hp
        obtain ⟨z, hz, rfl⟩ := hp
        obtain ⟨u1, hu1, du1⟩ := (p.dall r1).get hz
        refine ⟨⟨us, u1, SqL.of (p.l _ _ h1 n1).1, hu1⟩, fun v H3 hy => ?_⟩
        obtain ⟨Tt, x', rfl, hT, rfl, hx'⟩ := hy
        have q1 := hx' us (SqL.of (p.l _ _ h1 n1).1)
        rw [hu1] at q1; cases q1
        refine ⟨new_of hT, tabs_new t2 hT, .tup upd_same (not_av av2 hT) (.cons ?_ (.cons (du1.ext (new_of hT)) .nil))⟩
        simp only [Nat.zero_add]
        exact .int _
      · exact ⟨us, SqL.of (p.l _ _ h1 n1).1, by rw [r1.length]; simpa using hle⟩
end
/-! ### targets -/
/-- x goes to the target: the environment becomes env' -/
def TgE (K : PySem.W.Frag) (T : List (Addr × Str)) (g : TG) (env : En) (x : PyData) (env' : En) (ws : List Nat) : Prop := ∀ Mu Av0 H0 Av σ H v, Sta K T Mu Av0 H0 Av env σ H → DA K Av H v x → ∀ Q : L2.St → Hp → Prop,
  (∀ σ', Sta K T Mu Av0 H0 Av env' σ' H → (∀ j, j ∉ ws → σ'[j]? = σ[j]?) → σ'.length = σ.length → Q σ' H) → g v σ H Q
def TgsE (K : PySem.W.Frag) (T : List (Addr × Str)) (g : TGs) (env : En) (xs : List PyData) (env' : En) (ws : List Nat) : Prop := ∀ Mu Av0 H0 Av σ H vs, Sta K T Mu Av0 H0 Av env σ H → DAll K Av H vs xs → ∀ Q : L2.St → Hp → Prop,
  (∀ σ', Sta K T Mu Av0 H0 Av env' σ' H → (∀ j, j ∉ ws → σ'[j]? = σ[j]?) → σ'.length = σ.length → Q σ' H) → g vs σ H Q
section
variable {x : PyData} {xs : List PyData} {g : TG} {gs : TGs} {i : Nat} {ws us : List Nat}
theorem tg_name (hi : i < env.length) : TgE K T (gName i) env x (env.set i (.d x)) [i] := fun Mu Av0 H0 Av σ H v S d Q q =>
  q _ (S.set d hi) (fun j hj => List.getElem?_set_ne fun e => hj (by simp [e])) (by simp)
theorem tgs_nil : TgsE K T gNil env [] env [] := fun Mu Av0 H0 Av σ H vs S d Q q => by
  cases d
  exact ⟨rfl, q _ S (fun _ _ => rfl) rfl⟩
theorem tgs_cons (h1 : TgE K T g env x env' ws) {env2 : En} (h2 : TgsE K T gs env' xs env2 us) : TgsE K T (gCons g gs) env (x :: xs) env2 (ws ++ us) := fun Mu Av0 H0 Av σ H vs S d Q q => by
  cases d with
  | cons a b =>
    exact ⟨_, _, rfl, h1 _ _ _ _ _ _ _ S a _ fun σ1 S1 k1 l1 => h2 _ _ _ _ _ _ _ S1 b _ fun σ2 S2 k2 l2 => q σ2 S2 (fun j hj => by
      simp only [List.mem_append, not_or] at hj
      rw [k2 j hj.2, k1 j hj.1]) (l2.trans l1)⟩
theorem tg_tup {n : Nat} (h : TgsE K T gs env xs env' ws) (hn : xs.length = n) : TgE K T (gTup K n gs) env (.tuple xs) env' ws := fun Mu Av0 H0 Av σ H v S d Q q => by
  cases d with
  | @tup a vs _ h1 n1 r1 => exact ⟨a, vs, rfl, SqT.of h1, by rw [r1.length]; exact hn, h _ _ _ _ _ _ _ S r1 Q q⟩
  | @unit a hu => exact ⟨a, [], rfl, hu H, by simpa using hn, h _ _ _ _ _ _ _ S .nil Q q⟩
end
theorem run_asg {te : TE} {g : TG} {x : PyData} {ws : List Nat} (h : EvE K T te env x) (hg : TgE K T g env x env' ws) : Run K T (tAsg te g) env (.nx env') := fun Mu Av0 H0 Av σ H D S q =>
  h _ _ _ _ _ _ S _ fun v H1 e1 t1 d1 => hg _ _ _ _ _ _ _ (S.grow e1 t1) d1 _ fun σ' S' _ _ => q _ _ _ S' (Pres.ext e1)

/-! ### for -/
section
variable {wi : TI} {g : TG} {tb : TS} {xs : List PyData} {o : Out}
/-- a for loop: f k the environment ahead of the turn k, h k behind the target's assignment; m turns run through; then its end, a return, a break -/
theorem run_for (hi : EvI K T wi env xs) (f : Nat → En) (h : Nat → En) (f0 : f 0 = env) (m : Nat) (hm : m ≤ xs.length) {ws : List Nat} (hg : ∀ i x, xs[i]? = some x → i ≤ m → TgE K T g (f i) x (h i) ws)
    (turn : ∀ i x, xs[i]? = some x → i < m → Run K T tb (h i) (.nx (f (i + 1))) ∨ Run K T tb (h i) (.ct (f (i + 1))))
    (fin : (m = xs.length ∧ o = .nx (f m)) ∨ (m < xs.length ∧ ((∃ r ob, o = .rt r ob ∧ Run K T tb (h m) (.rt r ob)) ∨ ∃ e, o = .nx e ∧ Run K T tb (h m) (.bk e)))) : Run K T (tFor wi g tb) env o := fun Mu Av0 H0 Av σ H D S q =>
  hi _ _ _ _ _ _ S _ fun J H1 e1 t1 wk => by
    refine ⟨fun i r σ' H' => r = xs.length - i ∧ i ≤ m ∧ ∃ Av', Sta K T Mu Av0 H0 Av' (f i) σ' H' ∧ Pres Av H1 Av' H', ⟨xs.length, by simp, Nat.zero_le _, Av, by rw [f0]; exact S.grow e1 t1, Pres.refl _ _⟩, ?_⟩
    rintro i r σ' H' ⟨rfl, him, Av', S', p⟩
    obtain ⟨w1, w2⟩ := wk i Av' H' p S'.tb S'.av
    have q1 : Goes K T Mu Av0 H0 Av' H' D o := q.pres ((Pres.ext e1).trans p)
    by_cases hlt : i < xs.length
    · have hx : xs[i]? = some xs[i] := List.getElem?_eq_getElem hlt
      obtain ⟨go, yl⟩ := w1 _ hx
      refine .inr ⟨go, fun σ2 H2 => ∃ Av2, Sta K T Mu Av0 H0 Av2 (f (i + 1)) σ2 H2 ∧ Pres Av H1 Av2 H2 ∧ i < m, fun σ2 H2 ⟨Av2, S2, p2, hlm⟩ => ⟨xs.length - (i + 1), by omega, rfl, by omega, Av2, S2, p2⟩, fun v H3 hy => ?_⟩
      obtain ⟨e3, t3, d3⟩ := yl v H3 hy
      refine hg i _ hx him _ _ _ _ _ _ _ (S'.grow e3 t3) d3 _ fun σ4 S4 _ _ => ?_
      by_cases hm2 : i < m
      · rcases turn i _ hx hm2 with k | k
        · exact k _ _ _ _ _ _ _ S4 fun a s hh S5 p5 => ⟨a, S5, (p.trans (Pres.ext e3)).trans p5, hm2⟩
        · exact k _ _ _ _ _ _ _ S4 fun a s hh S5 p5 => ⟨a, S5, (p.trans (Pres.ext e3)).trans p5, hm2⟩
      · have : i = m := by omega
        subst this
        rcases fin with ⟨hz, _⟩ | ⟨_, ⟨r, ob, rfl, k⟩ | ⟨e, rfl, k⟩⟩
        · omega
        · exact k _ _ _ _ _ _ _ S4 q1
        · exact k _ _ _ _ _ _ _ S4 fun a s hh S5 p5 => q1 a s hh S5 ((Pres.ext e3).trans p5)
    · refine .inl ⟨w2 (by omega), ?_⟩
      rcases fin with ⟨hz, rfl⟩ | ⟨hz, _⟩
      · have : i = m := by omega
        subst this
        exact q1 _ _ _ S' (Pres.refl _ _)
      · omega
/-- .. run through to its end -/
theorem run_forA (hi : EvI K T wi env xs) (f : Nat → En) (h : Nat → En) (f0 : f 0 = env) {ws : List Nat} (hg : ∀ i x, xs[i]? = some x → TgE K T g (f i) x (h i) ws)
    (turn : ∀ i x, xs[i]? = some x → Run K T tb (h i) (.nx (f (i + 1))) ∨ Run K T tb (h i) (.ct (f (i + 1)))) : Run K T (tFor wi g tb) env (.nx (f xs.length)) :=
  run_for hi f h f0 xs.length (Nat.le_refl _) (fun i x hx _ => hg i x hx) (fun i x hx _ => turn i x hx) (.inl ⟨rfl, rfl⟩)
end

/-! ### comprehensions -/
theorem wipe_get : ∀ (vs : List Nat) (σ : L2.St) (j : Nat), (L2.wipe σ vs)[j]? = if j ∈ vs ∧ j < σ.length then some none else σ[j]?
  | [], σ, j => by simp [L2.wipe]
  | v :: vs, σ, j => by
    have ih := wipe_get vs σ j
    have hl : (L2.wipe σ vs).length = σ.length := by
      clear ih
      induction vs with
      | nil => rfl
      | cons w ws ih2 => show ((L2.wipe σ ws).set w none).length = _; rw [List.length_set]; exact ih2
    show ((L2.wipe σ vs).set v none)[j]? = _
    by_cases e : v = j
    · subst e
      by_cases hv : v < σ.length
      · rw [List.getElem?_set_self (by rw [hl]; exact hv), if_pos ⟨by simp, hv⟩]
      · rw [List.getElem?_eq_none (by rw [List.length_set, hl]; omega), if_neg (fun z => hv z.2), List.getElem?_eq_none (by omega)]
    · rw [List.getElem?_set_ne e, ih]
      by_cases hj : j ∈ vs ∧ j < σ.length
      · rw [if_pos hj, if_pos ⟨by simp [hj.1], hj.2⟩]
      · rw [if_neg hj, if_neg (fun z => hj ⟨by simpa [Ne.symm e] using z.1, z.2⟩)]
theorem wipe_len (vs : List Nat) (σ : L2.St) : (L2.wipe σ vs).length = σ.length := by
  induction vs with
  | nil => rfl
  | cons w ws ih => show ((L2.wipe σ ws).set w none).length = _; rw [List.length_set]; exact ih
theorem wipe_eq {vs : List Nat} {σ σ2 : L2.St} (h : ∀ j, j ∉ vs → σ2[j]? = (L2.wipe σ vs)[j]?) (hl : σ2.length = σ.length) : L2.wipe σ2 vs = L2.wipe σ vs := by
  refine List.ext_getElem? fun j => ?_
  rw [wipe_get, wipe_get]
  by_cases hj : j ∈ vs
  · by_cases hj2 : j < σ.length
    · rw [if_pos ⟨hj, by omega⟩, if_pos ⟨hj, hj2⟩]
    · rw [if_neg (fun z => hj2 (by omega)), if_neg (fun z => hj2 z.2), List.getElem?_eq_none (by omega), List.getElem?_eq_none (by omega)]
  · rw [if_neg (fun z => hj z.1), if_neg (fun z => hj z.1), h j hj, wipe_get, if_neg (fun z => hj z.1)]
def wipeE (env : En) : List Nat → En
  | [] => env
  | v :: vs => (wipeE env vs).set v .un
theorem wipeE_len (vs : List Nat) (env : En) : (wipeE env vs).length = env.length := by
  induction vs with
  | nil => rfl
  | cons w ws ih => show ((wipeE env ws).set w .un).length = _; rw [List.length_set]; exact ih
theorem Sta.wipe : ∀ {vs : List Nat}, Sta K T Mu Av0 H0 Av env σ H → (∀ v ∈ vs, v < env.length) → Sta K T Mu Av0 H0 Av (wipeE env vs) (L2.wipe σ vs) H
  | [], S, _ => S
  | v :: vs, S, h => (Sta.wipe (vs := vs) S fun x hx => h x (by simp [hx])).drop (by rw [wipeE_len]; exact h v (by simp))
/-- the state with one more address to be avoided (a comprehension's new list) -/
theorem Sta.avoid {D : Addr} {o : HO} (S : Sta K T Mu Av0 H0 Av env σ H) (hD : H D = none) (ho : ∀ ps, o ≠ .tbl ps) : Sta K T Mu (fun a => Av0 a ∨ a = D) H0 (fun a => Av a ∨ a = D) env σ (upd H D o) where
  gw := fun b u h n m => new_of hD b u (S.gw b u h n m) n
  mu := fun b h => by
    obtain ⟨C, dx, fs, q⟩ := S.mu b h
    exact ⟨C, dx, fs, new_of hD b _ q fun ps z => by cases z⟩
  tb := tabs_new S.tb hD
  sub := fun a h => h.elim (fun h => .inl (S.sub a h)) .inr
  av := fun a h => by
    rcases h with h | rfl
    · obtain ⟨u, h1, h2⟩ := S.av a h
      exact ⟨u, new_of hD a u h1 h2, h2⟩
    · exact ⟨o, upd_same, ho⟩
  len := S.len
  dat := fun j y hj => by
    obtain ⟨v, h1, h2⟩ := S.dat j y hj
    exact ⟨v, h1, (h2.more (Fresh.of hD) fun _ z => z).ext (new_of hD)⟩
  own := fun j y hj => by
    obtain ⟨l, us, h1, h2, h3, h4, h5, h6⟩ := S.own j y hj
    have ne : l ≠ D := fun z => by rw [z, hD] at h2; cases h2
    exact ⟨l, us, h1, ext_lst (new_of hD) h2, (h3.more (Fresh.of hD) fun _ z => z).ext (new_of hD), .inl h4, fun z => z.elim h5 ne, h6⟩
  dis := S.dis
  obj := fun j C fd w hj => by
    obtain ⟨o', dx, fs, h1, h2, h3, h4⟩ := S.obj j C fd w hj
    exact ⟨o', dx, fs, h1, new_of hD _ _ h2 fun ps z => (by cases z), h3.map fun _ _ q => (q.more (Fresh.of hD) fun _ z => z).ext (new_of hD), h4⟩
section
variable {wi : TI} {g : TG} {tt : TT} {te : TE} {xs : List PyData}
/-- the list of the items that the comprehension makes -/
def mades (xs : List PyData) (keep : Nat → Bool) (el : Nat → PyData) : Nat → List PyData
  | 0 => []
  | i + 1 => mades xs keep el i ++ (if keep i = true then [el i] else [])
theorem mades_len (xs : List PyData) (keep : Nat → Bool) (el : Nat → PyData) : ∀ i, (mades xs keep el i).length ≤ i
  | 0 => Nat.le_refl _
  | i + 1 => by
    have := mades_len xs keep el i
    unfold mades
    split <;> simp <;> omega
/-- [elt for target in iter if test] -/
theorem en_lc (hi : EvI K T wi env xs) {vs : List Nat} (hv : ∀ v ∈ vs, v < env.length) (h : Nat → En) (keep : Nat → Bool) (el : Nat → PyData) (hz : xs.length ≤ 100000) {ws : List Nat} (hw : ∀ j ∈ ws, j ∈ vs)
    (hg : ∀ i x, xs[i]? = some x → TgE K T g (wipeE env vs) x (h i) ws) (ht : ∀ i x, xs[i]? = some x → EvT K T tt (h i) (keep i)) (he : ∀ i x, xs[i]? = some x → keep i = true → EvE K T te (h i) (el i)) :
    EvN K T (tLc wi g tt te vs) env (mades xs keep el xs.length) := fun Mu Av0 H0 Av σ H S Q q =>
  hi _ _ _ _ _ _ S _ fun J H1 e1 t1 wk D hD => by
    have S1 := (S.grow e1 t1)
    have A1 := S1.avoid (D := D) (o := .lst []) hD (fun ps z => by cases z)
    refine ⟨fun i r H' => r = xs.length - i ∧ i ≤ xs.length ∧ ExtN H1 H' ∧ Tabs T H' ∧ ∃ acc, H' D = some (.lst acc) ∧ DAll K (fun a => Av a ∨ a = D) H' acc (mades xs keep el i), ⟨xs.length, by simp, Nat.zero_le _, new_of hD, tabs_new t1 hD, [], upd_same, .nil⟩, ?_⟩
    rintro i r H' ⟨rfl, hix, e2, t2, acc, hacc, racc⟩
    -- the state in the block
    have SB : Sta K T Mu (fun a => Av0 a ∨ a = D) H0 (fun a => Av a ∨ a = D) env σ H' := by
      have ne : ∀ b o, H1 b = some o → b ≠ D := fun b o h => ne_of_none h hD
      have S2 := S1.grow e2 t2
      refine ⟨S2.gw, S2.mu, t2, fun a h => h.elim (fun h => .inl (S1.sub a h)) .inr, fun a h => ?_, S1.len, fun j y hj => ?_, fun j y hj => ?_, S1.dis, fun j C fd w hj => ?_⟩
      · rcases h with h | rfl
        · exact S2.av a h
        · exact ⟨_, hacc, fun ps z => by cases z⟩
      · obtain ⟨v, h1, h2⟩ := S1.dat j y hj
        exact ⟨v, h1, (h2.more (Fresh.of hD) fun _ z => z).ext e2⟩
      · obtain ⟨l, us, h1, h2, h3, h4, h5, h6⟩ := S1.own j y hj
        exact ⟨l, us, h1, ext_lst e2 h2, (h3.more (Fresh.of hD) fun _ z => z).ext e2, .inl h4, fun z => z.elim h5 (ne l _ h2), h6⟩
      · obtain ⟨o', dx, fs, h1, h2, h3, h4⟩ := S1.obj j C fd w hj
        exact ⟨o', dx, fs, h1, e2 _ _ h2 fun ps z => (by cases z), h3.map fun _ _ q => (q.more (Fresh.of hD) fun _ z => z).ext e2, h4⟩
    have SW := SB.wipe hv
    have pr : Pres Av H1 (fun a => Av a ∨ a = D) H' := ⟨fun a ys z n => ⟨ext_lst e2 z, fun w => w.elim n (ne_of_none z hD)⟩, fun a ys z n => ⟨ext_tup e2 z, fun w => w.elim n (ne_of_none z hD)⟩⟩
    obtain ⟨w1, w2⟩ := wk i _ H' pr t2 SB.av
    by_cases hlt : i < xs.length
    · have hx : xs[i]? = some xs[i] := List.getElem?_eq_getElem hlt
      obtain ⟨go, yl⟩ := w1 _ hx
      refine .inr ⟨go, fun H3 => ExtN H1 H3 ∧ Tabs T H3 ∧ ∃ acc, H3 D = some (.lst acc) ∧ DAll K (fun a => Av a ∨ a = D) H3 acc (mades xs keep el (i + 1)), fun H3 ⟨a, b, c⟩ => ⟨xs.length - (i + 1), by omega, rfl, by omega, a, b, c⟩, fun v H3 hy => ?_⟩
      obtain ⟨e3, t3, d3⟩ := yl v H3 hy
      refine hg i _ hx _ _ _ _ _ _ _ (SW.grow e3 t3) d3 _ fun σ2 S2 k2 l2 => ⟨wipe_eq (fun j hj => k2 j fun z => hj (hw j z)) (by rw [l2, wipe_len]), ?_⟩
      refine ht i _ hx _ _ _ _ _ _ S2 _ fun H4 e4 t4 => ?_
      have e34 := e3.trans e4
      cases hk : keep i with
      | false =>
        rw [if_neg Bool.false_ne_true]
        refine ⟨e2.trans e34, t4, acc, ext_lst e34 hacc, ?_⟩
        have : mades xs keep el (i + 1) = mades xs keep el i := by show mades xs keep el i ++ _ = _; rw [hk]; simp
        rw [this]
        exact racc.ext e34
      | true =>
        rw [if_pos rfl]
        refine he i _ hx hk _ _ _ _ _ _ (S2.grow e4 t4) _ fun y H5 e5 t5 d5 => ?_
        have e35 := e34.trans e5
        refine ⟨acc, ext_lst e35 hacc, ?_, ?_⟩
        · rw [racc.length]
          exact Nat.lt_of_le_of_lt (mades_len xs keep el i) (Nat.lt_of_lt_of_le (by omega : i < 100000) (by decide))
        · have tabD : ∀ p ∈ T, p.1 ≠ D := fun p hp e => by
            obtain ⟨ps, z, _⟩ := t5 p hp
            rw [e, ext_lst e35 hacc] at z; cases z
          refine ⟨fun b o z n => ?_, fun p hp => ?_, acc ++ [y], upd_same, ?_⟩
          · rw [upd_ne (ne_of_none z hD)]
            exact (e2.trans e35) b o z n
          · obtain ⟨ps, z1, z2, z3⟩ := t5 p hp
            refine ⟨ps, by rw [upd_ne (tabD p hp)]; exact z1, z2, fun pos cv hc => ?_⟩
            obtain ⟨c, c1, c2⟩ := z3 pos cv hc
            exact ⟨c, c1, by rw [upd_ne fun z => by subst z; rw [ext_lst e35 hacc] at c2; unfold CodeO at c2; cases c2]; exact c2⟩
          · have : mades xs keep el (i + 1) = mades xs keep el i ++ [el i] := by show mades xs keep el i ++ _ = _; rw [hk]; simp
            rw [this]
            exact ((racc.ext e35).append (.cons d5 .nil)).mut (.inl (.inr rfl))
    · refine .inl ⟨w2 (by omega), ?_⟩
      have : i = xs.length := by omega
      subst this
      exact q D acc H' ((Fresh.of hD).back e1) (fun z => (not_av S1.av hD) z) (e1.trans e2) t2 hacc racc
/-- .. without a test, the element a function of the item -/
theorem mades_map (xs : List PyData) (f : PyData → PyData) : ∀ i, i ≤ xs.length → mades xs (fun _ => true) (fun j => f (xs.getD j .none)) i = (xs.take i).map f
  | 0, _ => rfl
  | i + 1, h => by
    unfold mades
    rw [mades_map xs f i (by omega), if_pos rfl, List.take_add_one, List.getElem?_eq_getElem (by omega), List.map_append, List.getD_eq_getElem?_getD, List.getElem?_eq_getElem (by omega)]
    rfl
theorem mades_filter (xs : List PyData) (p : PyData → Bool) (f : PyData → PyData) : ∀ i, i ≤ xs.length → mades xs (fun j => p (xs.getD j .none)) (fun j => f (xs.getD j .none)) i = ((xs.take i).filter p).map f
  | 0, _ => rfl
  | i + 1, h => by
    unfold mades
    rw [mades_filter xs p f i (by omega), List.take_add_one, List.getElem?_eq_getElem (by omega), List.getD_eq_getElem?_getD, List.getElem?_eq_getElem (by omega), List.filter_append, List.map_append]
    simp only [Option.getD_some, Option.toList_some]
    congr 1
    by_cases hp : p xs[i] = true
    · rw [if_pos hp, List.filter_cons, if_pos hp]; rfl
    · rw [if_neg hp, List.filter_cons, if_neg hp]; rfl
/-- [elt for x in iter], by a function of the item -/
theorem en_map (hi : EvI K T wi env xs) (f : PyData → PyData) {vs : List Nat} (hv : ∀ v ∈ vs, v < env.length) (h : PyData → En) (hz : xs.length ≤ 100000) {ws : List Nat} (hw : ∀ j ∈ ws, j ∈ vs)
    (hg : ∀ x ∈ xs, TgE K T g (wipeE env vs) x (h x) ws) (he : ∀ x ∈ xs, EvE K T te (h x) (f x)) : EvN K T (tLc wi g tYes te vs) env (xs.map f) := by
  have := en_lc (tt := tYes) hi hv (fun i => h (xs.getD i .none)) (fun _ => true) (fun i => f (xs.getD i .none)) hz hw (fun i x hx => by
    rw [List.getD_eq_getElem?_getD, hx]; exact hg x (List.mem_of_getElem? hx)) (fun i x hx Mu Av0 H0 Av σ H S Q q => q H (ExtN.refl H) S.tb) (fun i x hx _ => by
    rw [List.getD_eq_getElem?_getD, hx]; exact he x (List.mem_of_getElem? hx))
  rw [mades_map xs f _ (Nat.le_refl _), List.take_length] at this
  exact this
/-- [elt for x in iter if test] -/
theorem en_filter (hi : EvI K T wi env xs) (p : PyData → Bool) (f : PyData → PyData) {vs : List Nat} (hv : ∀ v ∈ vs, v < env.length) (h : PyData → En) (hz : xs.length ≤ 100000) {ws : List Nat} (hw : ∀ j ∈ ws, j ∈ vs)
    (hg : ∀ x ∈ xs, TgE K T g (wipeE env vs) x (h x) ws) (ht : ∀ x ∈ xs, EvT K T tt (h x) (p x)) (he : ∀ x ∈ xs, p x = true → EvE K T te (h x) (f x)) : EvN K T (tLc wi g tt te vs) env ((xs.filter p).map f) := by
  have := en_lc (tt := tt) hi hv (fun i => h (xs.getD i .none)) (fun i => p (xs.getD i .none)) (fun i => f (xs.getD i .none)) hz hw (fun i x hx => by
    rw [List.getD_eq_getElem?_getD, hx]; exact hg x (List.mem_of_getElem? hx)) (fun i x hx => by
    rw [List.getD_eq_getElem?_getD, hx]; exact ht x (List.mem_of_getElem? hx)) (fun i x hx k => by
    rw [List.getD_eq_getElem?_getD, hx] at k ⊢; exact he x (List.mem_of_getElem? hx) k)
  rw [mades_filter xs p f _ (Nat.le_refl _), List.take_length] at this
  exact this
end

/-! ### defs -/
/-- the promise of a def that only reads: F args result -/
def SpD (K : PySem.W.Frag) (T : List (Addr × Str)) (n : Nat) (F : List PyData → PyData → Prop) : Sp := fun vs H Q _ => ∃ (Av : Avs) (ds : List PyData) (r : PyData), F ds r ∧ vs.length = n ∧ Tabs T H ∧ (∀ a, Av a → ∃ o, H a = some o ∧ ∀ ps, o ≠ .tbl ps) ∧ DAll K Av H vs ds ∧
  ∀ v H', ExtN H H' → Tabs T H' → DA K Av H' v r → Q v H'
theorem ev_call {n : Nat} {F : List PyData → PyData → Prop} {E : XK} {ta : TA} {ds : List PyData} {r : PyData} (h : EvA K T ta env ds) (hF : F ds r) (hn : ds.length = n) : EvE K T (tCall (SpD K T n F) [] E ta) env r := fun Mu Av0 H0 Av σ H S Q q =>
  h _ _ _ _ _ _ S _ fun vs H1 e1 t1 d1 => ⟨Av, ds, r, hF, by rw [List.append_nil, d1.length]; exact hn, t1, (S.grow e1 t1).av, by rw [List.append_nil]; exact d1, fun v H2 e2 t2 d2 => q v H2 (e1.trans e2) t2 d2⟩
def args (ds : List PyData) (m : Nat) : En := ds.map .d ++ List.replicate m .un
theorem sta_start {vs : List V} {ds : List PyData} {N : List Str} {n : Nat} (h : DAll K Av H vs ds) (t : Tabs T H) (av : ∀ a, Av a → ∃ o, H a = some o ∧ ∀ ps, o ≠ .tbl ps) (hn : N.length = vs.length + n) : Sta K T (fun _ => False) Av H Av (args ds n) (L2.start N vs) H where
  gw := fun b o h _ _ => h
  mu := fun _ h => h.elim
  tb := t
  sub := fun _ h => h
  av := av
  len := by unfold args L2.start; simp [h.length]; rw [← h.length]; omega
  dat := fun i x hi => by
    unfold args at hi
    by_cases hl : i < ds.length
    · rw [List.getElem?_append_left (by simpa using hl), List.getElem?_map, Option.map_eq_some_iff] at hi
      obtain ⟨d, hd, e⟩ := hi
      cases e
      obtain ⟨v, h1, h2⟩ := h.get hd
      refine ⟨v, ?_, h2⟩
      unfold L2.start
      rw [List.getElem?_append_left (by simp [h.length]; exact hl), List.getElem?_map, h1]; rfl
    · rw [List.getElem?_append_right (by simpa using hl), List.getElem?_replicate] at hi
      split at hi <;> cases hi
  own := fun i x hi => by
    unfold args at hi
    by_cases hl : i < ds.length
    · rw [List.getElem?_append_left (by simpa using hl), List.getElem?_map, Option.map_eq_some_iff] at hi
      obtain ⟨d, hd, e⟩ := hi
      cases e
    · rw [List.getElem?_append_right (by simpa using hl), List.getElem?_replicate] at hi
      split at hi <;> cases hi
  dis := fun i j xs ys l hi => by
    exfalso
    unfold args at hi
    by_cases hl : i < ds.length
    · rw [List.getElem?_append_left (by simpa using hl), List.getElem?_map, Option.map_eq_some_iff] at hi
      obtain ⟨d, hd, e⟩ := hi
      cases e
    · rw [List.getElem?_append_right (by simpa using hl), List.getElem?_replicate] at hi
      split at hi <;> cases hi
  obj := fun i C fd w hi => by
    unfold args at hi
    by_cases hl : i < ds.length
    · rw [List.getElem?_append_left (by simpa using hl), List.getElem?_map, Option.map_eq_some_iff] at hi
      obtain ⟨d, hd, e⟩ := hi
      cases e
    · rw [List.getElem?_append_right (by simpa using hl), List.getElem?_replicate] at hi
      split at hi <;> cases hi
/-- a body that keeps the promise -/
theorem run_def {t : TS} {N : List Str} {n m : Nat} {F : List PyData → PyData → Prop} (hN : N.length = n + m) (h : ∀ ds r, F ds r → ds.length = n → Run K T t (args ds m) (.ret r) ∨ (r = .none ∧ ∃ e, Run K T t (args ds m) (.nx e))) {vs : List V} {Q : VK} {E : XK} (hs : SpD K T n F vs H Q E) :
    t { nx := fun _ H' => Q .non H', rt := Q } (L2.start N vs) H := by
  obtain ⟨Av, ds, r, hF, hl, ht, hav, hd, k⟩ := hs
  have S := sta_start (N := N) (n := m) hd ht hav (by omega)
  rcases h ds r hF (by rw [← hd.length]; exact hl) with h | ⟨rfl, e, h⟩
  · exact h _ _ _ _ _ _ _ S fun v H' g t2 d _ => k v H' (fun b o z n => g b o z n id) t2 d
  · exact h _ _ _ _ _ _ _ S fun a s H' S' p => k _ H' (fun b o z n => S'.gw b o z n id) S'.tb .non
end FW
end
section
set_option Elab.async false
set_option linter.all false
set_option maxRecDepth 100000
set_option maxHeartbeats 1000000
/-! Built-ins and operators over environments of data. -/
namespace FW
open PySem L2 LamX
variable {K : PySem.W.Frag} {T : List (Addr × Str)} {Mu Av0 Av Av' : Avs} {H0 H H' H1 H2 : Hp} {env env' : En} {σ σ' : L2.St}
section
variable {te ta tb tc : TE} {tt : TT} {x y z : PyData} {xs ys : List PyData}
/-! ### comparisons, numbers -/
theorem op_ltI {i j : Int} : OpD K T (rI0 fun i j => .bl (decide (i < j))) (.int i) (.int j) (.bool (decide (i < j))) := op_I0 fun _ _ _ => .bl _
theorem op_leI {i j : Int} : OpD K T (rI0 fun i j => .bl (decide (i ≤ j))) (.int i) (.int j) (.bool (decide (i ≤ j))) := op_I0 fun _ _ _ => .bl _
theorem op_gtI {i j : Int} : OpD K T (rI0 fun i j => .bl (decide (j < i))) (.int i) (.int j) (.bool (decide (j < i))) := op_I0 fun _ _ _ => .bl _
theorem op_geI {i j : Int} : OpD K T (rI0 fun i j => .bl (decide (j ≤ i))) (.int i) (.int j) (.bool (decide (j ≤ i))) := op_I0 fun _ _ _ => .bl _
theorem op_modI {i j : Int} (h : 0 < j) : OpD K T (rI (fun _ j => 0 < j) fun i j => .int (i % j)) (.int i) (.int j) (.int (i % j)) := op_I (C := fun _ j => 0 < j) h fun _ _ _ => .int _
theorem op_fdivI {i j : Int} (h : 0 < j ∧ j < 1073741824) : OpD K T (rI CDiv fun i j => .int (i / j)) (.int i) (.int j) (.int (i / j)) := op_I (C := CDiv) h fun _ _ _ => .int _
theorem op_shlI {i j : Int} (h : 0 ≤ j ∧ j ≤ 1000000 ∧ i.natAbs < 2 ^ 64) : OpD K T (rI CPow fun i j => .int (i * 2 ^ j.toNat)) (.int i) (.int j) (.int (i * 2 ^ j.toNat)) := op_I (C := CPow) h fun _ _ _ => .int _
theorem op_powI {i j : Int} (h : 0 ≤ j ∧ j ≤ 1000000 ∧ i.natAbs < 2 ^ 64) : OpD K T (rI CPow fun i j => .int (i ^ j.toNat)) (.int i) (.int j) (.int (i ^ j.toNat)) := op_I (C := CPow) h fun _ _ _ => .int _
theorem op_andI {i j : Int} : OpD K T (rI0 fun i j => .int (Builtin.bitAnd i j)) (.int i) (.int j) (.int (Builtin.bitAnd i j)) := op_I0 fun _ _ _ => .int _
theorem op_orI {i j : Int} : OpD K T (rI0 fun i j => .int (Builtin.bitOr i j)) (.int i) (.int j) (.int (Builtin.bitOr i j)) := op_I0 fun _ _ _ => .int _
/-- a < b < c -/
theorem ev_chain {r r' : R2} {b c : Bool} (h1 : EvE K T ta env x) (h2 : EvE K T tb env y) (hr : OpD K T r x y (.bool b)) (h3 : b = true → EvE K T tc env z) (hr' : b = true → OpD K T r' y z (.bool c)) : EvE K T (tChain r r' ta tb tc) env (.bool (b && c)) := fun Mu Av0 H0 Av σ H S Q q =>
  h1 _ _ _ _ _ _ S _ fun v H1 e1 t1 d1 => h2 _ _ _ _ _ _ (S.grow e1 t1) _ fun u H2 e2 t2 d2 => hr Av H2 v u (S.grow (e1.trans e2) t2).av t2 (d1.ext e2) d2 _ fun w H3 e3 t3 d3 => by
    cases d3
    refine ⟨b, rfl, ?_⟩
    have e13 := (e1.trans e2).trans e3
    cases b with
    | true =>
      rw [if_pos rfl]
      refine h3 rfl _ _ _ _ _ _ (S.grow e13 t3) _ fun w H4 e4 t4 d4 => ?_
      refine hr' rfl Av H4 u w (S.grow (e13.trans e4) t4).av t4 (d2.ext (e3.trans e4)) d4 _ fun w2 H5 e5 t5 d5 => ?_
      first
        | exact q _ H5 ((e13.trans e4).trans e5) t5 d5
        | (cases d5; exact ⟨_, rfl, q _ H5 ((e13.trans e4).trans e5) t5 (.bl _)⟩)
    | false =>
      rw [if_neg Bool.false_ne_true]
      exact q _ H3 e13 t3 (.bl _)
/-! ### lists -/
theorem ev_len (h : EvE K T te env (.list xs)) : EvE K T (tCB (fun vs H Q => ∃ p ys, vs = [.ref p] ∧ (SqL K H p ys ∨ SqT K H p ys) ∧ Q (.int ys.length) H) (tCons te tNil)) env (.int (xs.length : Nat)) := fun Mu Av0 H0 Av σ H S Q q =>
  h _ _ _ _ _ _ S _ fun v H1 e1 t1 d1 => by
    cases d1 with
    | lst h1 n r => exact ⟨_, _, rfl, .inl (SqL.of h1), by rw [r.length]; exact q _ H1 e1 t1 (.int _)⟩
theorem en_list (h : EvE K T te env (.list xs)) : EvN K T (tCB (fun vs H Q => ∃ p ys, vs = [.ref p] ∧ (SqL K H p ys ∨ SqT K H p ys) ∧ ∀ l, H l = none → Q (.ref l) (upd H l (.lst ys))) (tCons te tNil)) env xs := fun Mu Av0 H0 Av σ H S Q q =>
  h _ _ _ _ _ _ S _ fun v H1 e1 t1 d1 => by
    cases d1 with
    | lst h1 n r => exact ⟨_, _, rfl, .inl (SqL.of h1), fun l hl => q l _ _ ((Fresh.of hl).back e1) (not_av (S.grow e1 t1).av hl) (e1.trans (new_of hl)) (tabs_new t1 hl) upd_same ((r.more (Fresh.of hl) fun _ z => z).ext (new_of hl))⟩
theorem en_listT (h : EvE K T te env (.tuple xs)) : EvN K T (tCB (fun vs H Q => ∃ p ys, vs = [.ref p] ∧ (SqL K H p ys ∨ SqT K H p ys) ∧ ∀ l, H l = none → Q (.ref l) (upd H l (.lst ys))) (tCons te tNil)) env xs := fun Mu Av0 H0 Av σ H S Q q =>
  h _ _ _ _ _ _ S _ fun v H1 e1 t1 d1 => by
    cases d1 with
    | tup h1 n r => exact ⟨_, _, rfl, .inr (SqT.of h1), fun l hl => q l _ _ ((Fresh.of hl).back e1) (not_av (S.grow e1 t1).av hl) (e1.trans (new_of hl)) (tabs_new t1 hl) upd_same ((r.more (Fresh.of hl) fun _ z => z).ext (new_of hl))⟩
    | unit hu => exact ⟨_, [], rfl, .inr (hu _), fun l hl => q l _ _ ((Fresh.of hl).back e1) (not_av (S.grow e1 t1).av hl) (e1.trans (new_of hl)) (tabs_new t1 hl) upd_same .nil⟩
theorem ev_sum {ns : List Int} (h : EvE K T te env (.list (ns.map .int))) : EvE K T (tCB (rSum K) (tCons te tNil)) env (.int ns.sum) := fun Mu Av0 H0 Av σ H S Q q =>
  h _ _ _ _ _ _ S _ fun v H1 e1 t1 d1 => by
    cases d1 with
    | lst h1 n r =>
      have := r.ints_eq
      subst this
      exact ⟨_, ns, rfl, SqL.of h1, q _ H1 e1 t1 (.int _)⟩
theorem ev_all {ns : List Bool} (h : EvE K T te env (.list (ns.map .bool))) : EvE K T (tCB (rAll K) (tCons te tNil)) env (.bool (ns.all id)) := fun Mu Av0 H0 Av σ H S Q q =>
  h _ _ _ _ _ _ S _ fun v H1 e1 t1 d1 => by
    cases d1 with
    | lst h1 n r =>
      have := r.bools_eq
      subst this
      exact ⟨_, ns, rfl, SqL.of h1, q _ H1 e1 t1 (.bl _)⟩
theorem ev_any {ns : List Bool} (h : EvE K T te env (.list (ns.map .bool))) : EvE K T (tCB (rAny K) (tCons te tNil)) env (.bool (ns.any id)) := fun Mu Av0 H0 Av σ H S Q q =>
  h _ _ _ _ _ _ S _ fun v H1 e1 t1 d1 => by
    cases d1 with
    | lst h1 n r =>
      have := r.bools_eq
      subst this
      exact ⟨_, ns, rfl, SqL.of h1, q _ H1 e1 t1 (.bl _)⟩
theorem ev_gcd {a b : Int} (h : EvE K T ta env (.int a)) (h2 : EvE K T tb env (.int b)) : EvE K T (tCB rGcd (tCons ta (tCons tb tNil))) env (.int ((Nat.gcd a.natAbs b.natAbs : Nat) : Int)) := fun Mu Av0 H0 Av σ H S Q q =>
  h _ _ _ _ _ _ S _ fun v H1 e1 t1 d1 => h2 _ _ _ _ _ _ (S.grow e1 t1) _ fun u H2 e2 t2 d2 => by
    cases d1; cases d2
    exact ⟨a, b, rfl, q _ H2 (e1.trans e2) t2 (.int _)⟩
theorem ev_abs {a : Int} (h : EvE K T ta env (.int a)) : EvE K T (tCB (fun xs H Q => ∃ i, xs = [.int i] ∧ Q (.int (if i < 0 then -i else i)) H) (tCons ta tNil)) env (.int (a.natAbs : Nat)) := fun Mu Av0 H0 Av σ H S Q q =>
  h _ _ _ _ _ _ S _ fun v H1 e1 t1 d1 => by
    cases d1
    refine ⟨a, rfl, ?_⟩
    have : (if a < 0 then -a else a) = (a.natAbs : Int) := by split <;> omega
    rw [this]
    exact q _ H1 e1 t1 (.int _)
theorem ev_intc {a : Int} (h : EvE K T ta env (.int a)) : EvE K T (tCB (fun xs H Q => (∃ i, xs = [.int i] ∧ Q (.int i) H) ∨ ∃ k, xs = [.bl k] ∧ Q (.int (if k then 1 else 0)) H) (tCons ta tNil)) env (.int a) := fun Mu Av0 H0 Av σ H S Q q =>
  h _ _ _ _ _ _ S _ fun v H1 e1 t1 d1 => by
    cases d1
    exact .inl ⟨a, rfl, q _ H1 e1 t1 (.int _)⟩
theorem en_cat (h : EvE K T ta env (.list xs)) (h2 : EvE K T tb env (.list ys)) (hz : xs.length + ys.length ≤ 100000) : EvN K T (tOp rCat ta tb) env (xs ++ ys) := fun Mu Av0 H0 Av σ H S Q q =>
  h _ _ _ _ _ _ S _ fun v H1 e1 t1 d1 => h2 _ _ _ _ _ _ (S.grow e1 t1) _ fun u H2 e2 t2 d2 => by
    cases d1 with
    | lst h1 n r =>
      cases d2 with
      | lst h2 n2 r2 =>
        refine ⟨_, _, _, _, rfl, rfl, ext_lst e2 h1, h2, by rw [r.length, r2.length]; exact Nat.le_trans hz (by decide), fun p hp => ?_⟩
        exact q p _ _ ((Fresh.of hp).back (e1.trans e2)) (not_av (S.grow (e1.trans e2) t2).av hp) ((e1.trans e2).trans (new_of hp)) (tabs_new t2 hp) upd_same ((((r.ext e2).append r2).more (Fresh.of hp) fun _ z => z).ext (new_of hp))
theorem da_replicate {v : V} {d : PyData} (h : DA K Av H v d) : ∀ n, DAll K Av H (List.replicate n v) (List.replicate n d)
  | 0 => .nil
  | n + 1 => .cons h (da_replicate h n)
theorem en_slice {tl th : TO} {lo hi : Option Int} (h : EvE K T te env (.list xs)) (h1 : EvO K T tl env lo) (h2 : EvO K T th env hi) :
    EvN K T (tSl (rSlL K) te tl th) env ((xs.drop (HT.sIx xs.length 0 lo)).take (HT.sIx xs.length xs.length hi - HT.sIx xs.length 0 lo)) := fun Mu Av0 H0 Av σ H S Q q =>
  h _ _ _ _ _ _ S _ fun v H1 e1 t1 d1 => h1 _ _ _ _ _ _ (S.grow e1 t1) _ fun H2 e2 t2 => h2 _ _ _ _ _ _ (S.grow (e1.trans e2) t2) _ fun H3 e3 t3 => by
    cases d1 with
    | @lst a vs _ k1 n r =>
      have e13 := (e1.trans e2).trans e3
      refine ⟨a, vs, rfl, SqL.of (ext_lst (e2.trans e3) k1), fun p hp => ?_⟩
      refine q p _ _ ((Fresh.of hp).back e13) (not_av (S.grow e13 t3).av hp) (e13.trans (new_of hp)) (tabs_new t3 hp) upd_same (DAll.ext (DAll.more ?_ (Fresh.of hp) fun _ z => z) (new_of hp))
      unfold cutV
      rw [r.length]
      exact ((r.ext (e2.trans e3)).drop _).take _
theorem eo_none : EvO K T tNoPart env none := fun Mu Av0 H0 Av σ H S Q q => q H (ExtN.refl H) S.tb
theorem eo_some {i : Int} (h : EvE K T te env (.int i)) : EvO K T (tPart te) env (some i) := fun Mu Av0 H0 Av σ H S Q q => h _ _ _ _ _ _ S _ fun v H1 e1 t1 d1 => by
  cases d1
  exact ⟨i, rfl, q H1 e1 t1⟩
theorem ev_tup {ta : TA} (h : EvA K T ta env xs) (hz : xs.length ≤ 100000) : EvE K T (tTup ta) env (.tuple xs) := fun Mu Av0 H0 Av σ H S Q q => h _ _ _ _ _ _ S _ fun vs H1 e1 t1 d1 =>
  ⟨by rw [d1.length]; exact Nat.le_trans hz (by decide), fun p hp => q _ _ (e1.trans (new_of hp)) (tabs_new t1 hp) (.tup upd_same (not_av (S.grow e1 t1).av hp) (d1.ext (new_of hp)))⟩
/-- truth of a list -/
theorem et_truL (h : EvE K T te env (.list xs)) : EvT K T (fun σ H Q => te σ H fun x H' => ∃ k, TruV K x H' k ∧ Q k H') env (!xs.isEmpty) := fun Mu Av0 H0 Av σ H S Q q => h _ _ _ _ _ _ S _ fun v H1 e1 t1 d1 => by
  cases d1 with
  | @lst a vs _ k1 n r =>
    refine ⟨!xs.isEmpty, .inl ⟨vs, SqL.of k1, ?_⟩, q H1 e1 t1⟩
    have := r.length
    cases vs <;> cases xs <;> simp_all
/-! ### data compared -/
def dV (v : List Int) : PyData := .list (v.map .int)
def dVs (vs : List (List Int)) : PyData := .list (vs.map dV)
theorem op_eqDat (hx : SeqAt.shaped x = true) (hy : SeqAt.shaped y = true) : OpD K T (rEqD K) x y (.bool (PyData.eqv x y)) := fun Av H v u _ t dv du Q q => ⟨x, y, dv.dp _ _, du.dp _ _, hx, hy, q _ H (ExtN.refl H) t (.bl _)⟩
theorem op_neDat (hx : SeqAt.shaped x = true) (hy : SeqAt.shaped y = true) : OpD K T (rNeD K) x y (.bool (!PyData.eqv x y)) := fun Av H v u _ t dv du Q q => ⟨x, y, dv.dp _ _, du.dp _ _, hx, hy, q _ H (ExtN.refl H) t (.bl _)⟩
theorem op_niDat (hx : SeqAt.shaped x = true) (hy : SeqAt.shaped (.list ys) = true) : OpD K T (rNotInD K) x (.list ys) (.bool (!ys.any fun z => PyData.eqv z x)) := fun Av H v u _ t dv du Q q => ⟨x, ys, dv.dp _ _, du.dp _ _, hx, hy, q _ H (ExtN.refl H) t (.bl _)⟩
end
theorem eqvAll_ints : ∀ u v : List Int, PyData.eqvAll (u.map .int) (v.map .int) = decide (u = v)
  | [], [] => rfl
  | [], _ :: _ => rfl
  | _ :: _, [] => rfl
  | x :: u, y :: v => by
    show (PyData.eqv (.int x) (.int y) && PyData.eqvAll (u.map .int) (v.map .int)) = _
    rw [eqvAll_ints u v]
    show ((x == y) && decide (u = v)) = _
    by_cases h : x = y
    · by_cases h2 : u = v
      · simp [h, h2]
      · simp [h, h2]
    · simp [h]
theorem eqv_dV (u v : List Int) : PyData.eqv (dV u) (dV v) = decide (u = v) := by
  show PyData.eqvAll (u.map .int) (v.map .int) = _
  exact eqvAll_ints u v
theorem eqvAll_dVs : ∀ u v : List (List Int), PyData.eqvAll (u.map dV) (v.map dV) = decide (u = v)
  | [], [] => rfl
  | [], _ :: _ => rfl
  | _ :: _, [] => rfl
  | x :: u, y :: v => by
    show (PyData.eqv (dV x) (dV y) && PyData.eqvAll (u.map dV) (v.map dV)) = _
    rw [eqvAll_dVs u v, eqv_dV]
    by_cases h : x = y
    · by_cases h2 : u = v
      · simp [h, h2]
      · simp [h, h2]
    · simp [h]
theorem eqv_dVs (u v : List (List Int)) : PyData.eqv (dVs u) (dVs v) = decide (u = v) := by
  show PyData.eqvAll (u.map dV) (v.map dV) = _
  exact eqvAll_dVs u v
theorem lay_ints : ∀ u : List Int, PyData.canLayAll0 (u.map PyData.int) = true
  | [] => rfl
  | x :: u => by
    show (PyData.canLay0 (.int x) && PyData.canLayAll0 (u.map PyData.int)) = true
    rw [lay_ints u]; rfl
theorem depth_ints : ∀ u : List Int, PyData.depthAll (u.map PyData.int) = 0
  | [] => rfl
  | x :: u => by
    show max (PyData.depth (.int x)) (PyData.depthAll (u.map PyData.int)) = 0
    rw [depth_ints u]; rfl
theorem lay_dV (u : List Int) : PyData.canLay0 (dV u) = true := lay_ints u
theorem depth_dV (u : List Int) : PyData.depth (dV u) = 1 := by
  show PyData.depthAll (u.map PyData.int) + 1 = 1
  rw [depth_ints]
theorem shaped_dV (u : List Int) : SeqAt.shaped (dV u) = true := by
  unfold SeqAt.shaped
  rw [lay_dV, depth_dV]; rfl
theorem lay_dVsL : ∀ u : List (List Int), PyData.canLayAll0 (u.map dV) = true
  | [] => rfl
  | x :: u => by
    show (PyData.canLay0 (dV x) && PyData.canLayAll0 (u.map dV)) = true
    rw [lay_dVsL u, lay_dV]; rfl
theorem depth_dVsL : ∀ u : List (List Int), PyData.depthAll (u.map dV) ≤ 1
  | [] => by show 0 ≤ 1; omega
  | x :: u => by
    show max (PyData.depth (dV x)) (PyData.depthAll (u.map dV)) ≤ 1
    rw [depth_dV]
    have := depth_dVsL u
    omega
theorem depth_dVs (u : List (List Int)) : PyData.depth (dVs u) ≤ 2 := by
  show PyData.depthAll (u.map dV) + 1 ≤ 2
  have := depth_dVsL u
  omega
theorem shaped_dVs (u : List (List Int)) : SeqAt.shaped (dVs u) = true := by
  unfold SeqAt.shaped
  have h1 : PyData.canLay0 (dVs u) = true := lay_dVsL u
  have h2 := depth_dVs u
  rw [h1, decide_eq_true (by omega)]; rfl
end FW
end
section
set_option Elab.async false
set_option linter.all false
set_option maxRecDepth 100000
set_option maxHeartbeats 1000000
/-! Objects over environments: fields, methods, making. -/
namespace FW
open PySem L2 LamX
variable {K : PySem.W.Frag} {T : List (Addr × Str)} {Mu Av0 Av Av' : Avs} {H0 H H' H1 H2 : Hp} {env env' : En} {σ σ' : L2.St}
abbrev Fd := List (Str × Option PyData)
def isObj : Ent → Bool
  | .obj _ _ _ => true
  | _ => false
/-- no other slot holds an object -/
def soloB (i : Nat) : Nat → En → Bool
  | _, [] => true
  | k, e :: es => (!isObj e || k == i) && soloB i (k + 1) es
theorem solo_of {i : Nat} : ∀ {k : Nat} {env : En}, soloB i k env = true → ∀ j C fd w, env[j]? = some (.obj C fd w) → k + j = i
  | k, [], _, j, C, fd, w, h => by simp at h
  | k, e :: es, hb, 0, C, fd, w, h => by
    simp at h; subst h
    unfold soloB at hb
    simp [isObj] at hb
    exact hb.1
  | k, e :: es, hb, j + 1, C, fd, w, h => by
    unfold soloB at hb
    rw [Bool.and_eq_true] at hb
    have := solo_of (k := k + 1) hb.2 j C fd w (by simpa using h)
    omega
/-- the object's fields have changed, new things were made -/
theorem Sta.mutd {i : Nat} {C : Addr} {fd fd' : Fd} {w : Wr} {o dx' : Addr} {fs' : List (Str × V)} (S : Sta K T Mu Av0 H0 Av env σ H) (hi : env[i]? = some (.obj C fd w)) (hw : w ≠ .rd) (so : soloB i 0 env = true) (ho : σ[i]? = some (some (.ref o)))
    (k : ∀ b x, H b = some x → (∀ ps, x ≠ .tbl ps) → b ≠ o → H' b = some x) (t : Tabs T H') (h' : H' o = some (.ins C dx' fs')) (r : Flds K Av H' fs' fd') : Sta K T Mu Av0 H0 Av (env.set i (.obj C fd' w)) σ H' := by
  obtain ⟨o2, dx, fs, q1, q2, q3, q4⟩ := S.obj i C fd w hi
  rw [ho] at q1; cases q1
  have hlt : i < env.length := (List.getElem?_eq_some_iff.mp hi).1
  have kl : ∀ a xs, H a = some (.lst xs) → H' a = some (.lst xs) := fun a xs e => k a _ e (fun ps z => by cases z) fun z => by subst z; rw [q2] at e; cases e
  have kt : ∀ a xs, H a = some (.tup xs) → H' a = some (.tup xs) := fun a xs e => k a _ e (fun ps z => by cases z) fun z => by subst z; rw [q2] at e; cases e
  have da : ∀ v x, DA K Av H v x → DA K Av H' v x := fun v x d => d.map (fun a xs e n => ⟨kl a xs e, n⟩) (fun a xs e n => ⟨kt a xs e, n⟩) _ _
  have das : ∀ v x, DAll K Av H v x → DAll K Av H' v x := fun v x d => d.map (fun a xs e n => ⟨kl a xs e, n⟩) (fun a xs e n => ⟨kt a xs e, n⟩) _ _
  refine ⟨fun b x h n m => ?_, fun b h => ?_, t, S.sub, fun a h => ?_, by rw [List.length_set]; exact S.len, fun j y hj => ?_, fun j y hj => ?_, fun j l as bs m hj hl a b => ?_, fun j C2 fd2 w2 hj => ?_⟩
  · have hb := S.gw b x h n m
    refine k b x hb n fun z => ?_
    subst z
    cases w with
    | rd => exact hw rfl
    | me => exact m q4.1
    | mine => obtain ⟨ps, z⟩ := q4 x h; exact n ps z
  · obtain ⟨C2, dx2, fs2, z⟩ := S.mu b h
    by_cases e : b = o
    · subst e; exact ⟨_, _, _, h'⟩
    · exact ⟨C2, dx2, fs2, k b _ z (fun ps z => by cases z) e⟩
  · obtain ⟨x, z1, z2⟩ := S.av a h
    by_cases e : a = o
    · subst e; exact ⟨_, h', fun ps z => by cases z⟩
    · exact ⟨x, k a x z1 z2 e, z2⟩
  · by_cases e : i = j
    · subst e; rw [List.getElem?_set_self hlt] at hj; cases hj
    · rw [List.getElem?_set_ne e] at hj
      obtain ⟨v, h1, h2⟩ := S.dat j y hj
      exact ⟨v, h1, da _ _ h2⟩
  · by_cases e : i = j
    · subst e; rw [List.getElem?_set_self hlt] at hj; cases hj
    · rw [List.getElem?_set_ne e] at hj
      obtain ⟨l, us, h1, h2, h3, h4⟩ := S.own j y hj
      exact ⟨l, us, h1, kl _ _ h2, das _ _ h3, h4⟩
  · by_cases e : i = j
    · subst e; rw [List.getElem?_set_self hlt] at hj; cases hj
    · by_cases e2 : i = l
      · subst e2; rw [List.getElem?_set_self hlt] at hl; cases hl
      · rw [List.getElem?_set_ne e] at hj
        rw [List.getElem?_set_ne e2] at hl
        exact S.dis j l as bs m hj hl a b
  · by_cases e : i = j
    · subst e; rw [List.getElem?_set_self hlt] at hj; cases hj
      exact ⟨o, dx', fs', ho, h', r, q4⟩
    · rw [List.getElem?_set_ne e] at hj
      have := solo_of so j C2 fd2 w2 hj
      omega
theorem Pres.mutd {i : Nat} {C dx : Addr} {fs : List (Str × V)} {o : Addr} (h : H o = some (.ins C dx fs)) (k : ∀ b x, H b = some x → (∀ ps, x ≠ .tbl ps) → b ≠ o → H' b = some x) : Pres Av H Av H' :=
  ⟨fun a xs e n => ⟨k a _ e (fun ps z => by cases z) fun z => (by subst z; rw [h] at e; cases e), n⟩, fun a xs e n => ⟨k a _ e (fun ps z => by cases z) fun z => (by subst z; rw [h] at e; cases e), n⟩⟩
section
variable {te tv : TE} {x r : PyData} {xs ds : List PyData} {i j : Nat} {C : Addr} {fd fd' : Fd} {w : Wr} {n m : Str}
/-- e.f -/
theorem ev_fld (hi : env[i]? = some (.obj C fd w)) (hx : fd.lookup n = some (some x)) (c : Cls K C) (na : NoAttr K C n) : EvE K T (tFld K (tVar i) n) env x := fun Mu Av0 H0 Av σ H S Q q => by
  obtain ⟨o, dx, fs, q1, q2, q3, q4⟩ := S.obj i C fd w hi
  obtain ⟨v, l, d⟩ := q3.get hx
  exact ⟨.ref o, q1, o, C, dx, fs, v, rfl, q2, c, na, l, q v H (ExtN.refl H) S.tb d⟩
theorem tabs_upd {o : Addr} {u : HO} {C dx : Addr} {fs : List (Str × V)} (t : Tabs T H) (h : H o = some (.ins C dx fs)) : Tabs T (upd H o u) := fun p hp => by
  obtain ⟨ps, z1, z2, z3⟩ := t p hp
  refine ⟨ps, by rw [upd_ne fun z => by rw [z, h] at z1; cases z1]; exact z1, z2, fun pos cv hc => ?_⟩
  obtain ⟨c, c1, c2⟩ := z3 pos cv hc
  exact ⟨c, c1, by rw [upd_ne fun z => by subst z; rw [h] at c2; unfold CodeO at c2; cases c2]; exact c2⟩
theorem keep_upd {o : Addr} {u : HO} : ∀ b x, H b = some x → (∀ ps, x ≠ .tbl ps) → b ≠ o → upd H o u b = some x := fun b x h _ ne => by rw [upd_ne ne]; exact h
theorem flds_upd {o : Addr} {u : HO} {C dx : Addr} {fs fs2 : List (Str × V)} (h : H o = some (.ins C dx fs)) (r : Flds K Av H fs2 fd) : Flds K Av (upd H o u) fs2 fd := r.map fun _ _ d => d.mut (.inr fun xs => ⟨fun z => (by rw [h] at z; cases z), fun z => (by rw [h] at z; cases z)⟩)
/-- e.f = value -/
theorem run_fld (hi : env[i]? = some (.obj C fd w)) (hw : w ≠ .rd) (so : soloB i 0 env = true) (h : EvE K T tv env x) (c : Cls K C) (na : NoAttr K C n) (hl : fd.length < 100) : Run K T (sFld K (tVar i) tv n) env (.nx (env.set i (.obj C (putD n (some x) fd) w))) := fun Mu Av0 H0 Av σ H D S g =>
  h _ _ _ _ _ _ S _ fun v H1 e1 t1 d1 => by
    have S1 := S.grow e1 t1
    obtain ⟨o, dx, fs, q1, q2, q3, q4⟩ := S1.obj i C fd w hi
    refine ⟨.ref o, q1, o, C, dx, fs, rfl, q2, c, na, by rw [q3.len]; omega, ?_⟩
    exact g _ _ _ (S1.mutd hi hw so q1 keep_upd (tabs_upd t1 q2) upd_same (flds_upd q2 (q3.put fun y e => by cases e; exact d1))) ((Pres.ext e1).trans (Pres.mutd (i := 0) q2 keep_upd))
/-- e.f += value -/
theorem run_aug {rd : V → V → Hp → VK → Prop} {a : PyData} (hi : env[i]? = some (.obj C fd w)) (hw : w ≠ .rd) (so : soloB i 0 env = true) (ha : fd.lookup n = some (some a)) (h : EvE K T tv env x) (hr : OpD K T rd a x r) (c : Cls K C) (na : NoAttr K C n) (hl : fd.length < 100) : Run K T (sFldAug K (tVar i) tv rd n) env (.nx (env.set i (.obj C (putD n (some r) fd) w))) := fun Mu Av0 H0 Av σ H D S g => by
  obtain ⟨o, dx, fs, q1, q2, q3, q4⟩ := S.obj i C fd w hi
  obtain ⟨v, l, d⟩ := q3.get ha
  refine ⟨.ref o, q1, o, C, dx, fs, v, rfl, q2, c, na, l, h _ _ _ _ _ _ S _ fun u H1 e1 t1 d1 => ?_⟩
  refine hr Av H1 v u (S.grow e1 t1).av t1 (d.ext e1) d1 _ fun z H2 e2 t2 d2 => ?_
  have e12 := e1.trans e2
  have S2 := S.grow e12 t2
  have q2' := e12 o _ q2 fun ps z => by cases z
  have q3' := q3.map fun _ _ q => q.ext e12
  exact ⟨dx, fs, q2', by rw [q3.len]; omega, g _ _ _ (S2.mutd hi hw so q1 keep_upd (tabs_upd t2 q2') upd_same (flds_upd q2' (q3'.put fun y e => by cases e; exact d2))) ((Pres.ext e12).trans (Pres.mutd (i := 0) q2' keep_upd))⟩
/-- e.f = a new list; if test: e.f.append(x) -/
theorem run_fldApp {tt : TT} {b : Bool} {u : TS} {o' : Out} (hi : env[i]? = some (.obj C fd w)) (hw : w ≠ .rd) (so : soloB i 0 env = true) (h : EvN K T tv env xs) (c : Cls K C) (na : NoAttr K C n) (hl : fd.length < 100) (hz : xs.length < 100000) (hfd : (putD n none fd).lookup n = some none)
    (ht : EvT K T tt (env.set i (.obj C (putD n none fd) w)) b) (hx : b = true → EvE K T te (env.set i (.obj C (putD n none fd) w)) x) (hu : Run K T u (env.set i (.obj C (putD n (some (.list (if b = true then xs ++ [x] else xs))) fd) w)) o') :
    Run K T (tSeq (sFld K (tVar i) tv n) (tSeq (tIfS tt (tDrop (tBM K "list" rAppend (tFld K (tVar i) n) (tCons te tNil))) tNext) u)) env o' := fun Mu Av0 H0 Av σ H D S g =>
  h _ _ _ _ _ _ S _ fun l vs H1 f nl e1 t1 hD r => by
    have S1 := S.grow e1 t1
    have hil : i < env.length := (List.getElem?_eq_some_iff.mp hi).1
    obtain ⟨o, dx, fs, q1, q2, q3, q4⟩ := S1.obj i C fd w hi
    refine ⟨.ref o, q1, o, C, dx, fs, rfl, q2, c, na, by rw [q3.len]; omega, ?_⟩
    have hlo : l ≠ o := fun z => by subst z; rw [hD] at q2; cases q2
    -- behind the field's assignment: the list is avoided
    have SA : Sta K T Mu Av0 H0 (fun a => Av a ∨ a = l) (env.set i (.obj C (putD n none fd) w)) σ (upd H1 o (.ins C dx (putF n (.ref l) fs))) := by
      have S0 : Sta K T Mu Av0 H0 (fun a => Av a ∨ a = l) env σ H1 := by
        refine ⟨S1.gw, S1.mu, t1, fun a h => .inl (S1.sub a h), fun a h => ?_, S1.len, fun j y hj => ?_, fun j y hj => ?_, S1.dis, fun j C2 fd2 w2 hj => ?_⟩
        · rcases h with h | rfl
          · exact S1.av a h
          · exact ⟨_, hD, fun ps z => by cases z⟩
        · obtain ⟨v, h1, h2⟩ := S.dat j y hj
          exact ⟨v, h1, (h2.more f fun _ z => z).ext e1⟩
        · obtain ⟨m, us, h1, h2, h3, h4, h5⟩ := S.own j y hj
          exact ⟨m, us, h1, ext_lst e1 h2, (h3.more f fun _ z => z).ext e1, .inl h4, h5⟩
        · obtain ⟨o2, dx2, fs2, h1, h2, h3, h4⟩ := S.obj j C2 fd2 w2 hj
          exact ⟨o2, dx2, fs2, h1, e1 _ _ h2 fun ps z => (by cases z), h3.map fun _ _ q => (q.more f fun _ z => z).ext e1, h4⟩
      obtain ⟨o2, dx2, fs2, z1, z2, z3, z4⟩ := S0.obj i C fd w hi
      rw [q1] at z1; cases z1
      rw [q2] at z2; cases z2
      exact S0.mutd hi hw so q1 keep_upd (tabs_upd t1 q2) upd_same (flds_upd q2 (z3.put fun y e => by cases e))
    have hlup : ∀ fs : List (Str × V), (putF n (.ref l) fs).lookup n = some (.ref l) := fun fs => by rw [lookup_putF, if_pos rfl]
    have hD2 : (upd H1 o (.ins C dx (putF n (.ref l) fs))) l = some (.lst vs) := by rw [upd_ne hlo]; exact hD
    have r2 : DAll K (fun a => Av a ∨ a = l) (upd H1 o (.ins C dx (putF n (.ref l) fs))) vs xs := r.mut (.inr fun xs => ⟨fun z => (by rw [q2] at z; cases z), fun z => (by rw [q2] at z; cases z)⟩)
    have pr : Pres Av H (fun a => Av a ∨ a = l) (upd H1 o (.ins C dx (putF n (.ref l) fs))) := by
      refine ⟨fun a ys z nz => ⟨?_, fun q => q.elim nz fun q => ?_⟩, fun a ys z nz => ⟨?_, fun q => q.elim nz fun q => ?_⟩⟩
      · rw [upd_ne fun q => by subst q; rw [ext_lst e1 z] at q2; cases q2]; exact ext_lst e1 z
      · subst q; obtain ⟨ps, z2⟩ := f _ z; cases z2
      · rw [upd_ne fun q => by subst q; rw [ext_tup e1 z] at q2; cases q2]; exact ext_tup e1 z
      · subst q; obtain ⟨ps, z2⟩ := f _ z; cases z2
    -- the test
    refine ht _ _ _ _ _ _ SA _ fun H2 e2 t2 => ?_
    have fin : ∀ (H3 : Hp) (ws : List V) (ys : List PyData), Sta K T Mu Av0 H0 (fun a => Av a ∨ a = l) (env.set i (.obj C (putD n none fd) w)) σ H3 → H3 l = some (.lst ws) → DAll K (fun a => Av a ∨ a = l) H3 ws ys → H3 o = some (.ins C dx (putF n (.ref l) fs)) → Pres Av H (fun a => Av a ∨ a = l) H3 →
        ∃ Av', Sta K T Mu Av0 H0 Av' (env.set i (.obj C (putD n (some (.list ys)) fd) w)) σ H3 ∧ Pres Av H Av' H3 := fun H3 ws ys S3 h3 r3 ho3 p3 => by
      have wk : ∀ a, (Av a) → (Av a ∨ a = l) := fun a h => .inl h
      have nl' : ¬ Av l := nl
      refine ⟨Av, ?_, ⟨fun a zs z nz => ⟨(p3.l a zs z nz).1, nz⟩, fun a zs z nz => ⟨(p3.t a zs z nz).1, nz⟩⟩⟩
      refine ⟨S3.gw, S3.mu, S3.tb, S.sub, fun a h => S3.av a (.inl h), by rw [List.length_set]; have := S3.len; rwa [List.length_set] at this, fun j y hj => ?_, fun j y hj => ?_, fun j k as bs m hj hk a b => ?_, fun j C2 fd2 w2 hj => ?_⟩
      · by_cases e : i = j
        · subst e; rw [List.getElem?_set_self hil] at hj; cases hj
        · rw [List.getElem?_set_ne e] at hj
          obtain ⟨v, h1, h2⟩ := S3.dat j y (by rw [List.getElem?_set_ne e]; exact hj)
          exact ⟨v, h1, h2.weak wk⟩
      · by_cases e : i = j
        · subst e; rw [List.getElem?_set_self hil] at hj; cases hj
        · rw [List.getElem?_set_ne e] at hj
          obtain ⟨m, us, h1, h2, h3', h4, h5⟩ := S3.own j y (by rw [List.getElem?_set_ne e]; exact hj)
          obtain ⟨m', us', g1, g2, g3, g4, g5⟩ := S.own j y hj
          rw [h1] at g1; cases g1
          exact ⟨m, us, h1, h2, h3'.weak wk, g4, h5⟩
      · by_cases e : i = j
        · subst e; rw [List.getElem?_set_self hil] at hj; cases hj
        · by_cases e2 : i = k
          · subst e2; rw [List.getElem?_set_self hil] at hk; cases hk
          · rw [List.getElem?_set_ne e] at hj
            rw [List.getElem?_set_ne e2] at hk
            exact S.dis j k as bs m hj hk a b
      · by_cases e : i = j
        · subst e; rw [List.getElem?_set_self hil] at hj; cases hj
          obtain ⟨o2, dx2, fs2, z1, z2, z3, z4⟩ := S3.obj i C (putD n none fd) w (by rw [List.getElem?_set_self hil])
          rw [q1] at z1; cases z1
          rw [ho3] at z2; cases z2
          refine ⟨o, dx, _, q1, ho3, ?_, z4⟩
          -- the fields: the one at n holds the list
          have key : ∀ (fs : List (Str × V)) (fd : Fd), Flds K (fun a => Av a ∨ a = l) H3 (putF n (.ref l) fs) (putD n none fd) → Flds K Av H3 (putF n (.ref l) fs) (putD n (some (.list ys)) fd) := by
            intro fs fd q
            have d0 : DA K Av H3 (.ref l) (.list ys) := .lst h3 nl' (r3.weak wk)
            clear z3
            induction fs generalizing fd with
            | nil =>
              cases fd with
              | nil => exact .one (fun y e => by cases e; exact d0) .nil
              | cons p fd =>
                obtain ⟨g, y⟩ := p
                unfold putD at q ⊢
                show Flds K Av H3 [(n, V.ref l)] _
                have q' : Flds K (fun a => Av a ∨ a = l) H3 [(n, V.ref l)] (if g = n then (g, none) :: fd else (g, y) :: putD n none fd) := q
                split at q'
                · rename_i e
                  rw [if_pos e]
                  cases q' with
                  | one a b => cases b; exact .one (fun y e => by cases e; exact d0) .nil
                · rename_i e
                  cases q' with
                  | one a b => exact absurd rfl e
            | cons p fs ih =>
              obtain ⟨g, v⟩ := p
              unfold putF at q ⊢
              cases fd with
              | nil =>
                unfold putD at q ⊢
                split at q
                · rename_i e
                  rw [if_pos e]
                  cases q with
                  | one a b => cases b; exact .one (fun y e => by cases e; exact d0) .nil
                · rename_i e
                  cases q with
                  | one a b => exact absurd rfl e
              | cons p2 fd =>
                obtain ⟨g2, y⟩ := p2
                unfold putD at q ⊢
                split at q
                · rename_i e
                  rw [if_pos e]
                  split at q
                  · rename_i e2
                    rw [if_pos e2]
                    cases q with
                    | one a b => exact .one (fun y e => by cases e; exact d0) (b.map fun _ _ z => z.weak wk)
                  · rename_i e2
                    cases q with
                    | one a b => exact absurd e e2
                · rename_i e
                  rw [if_neg e]
                  split at q
                  · rename_i e2
                    cases q with
                    | one a b => exact absurd e2 e
                  · rename_i e2
                    rw [if_neg e2]
                    cases q with
                    | one a b => exact .one (fun y z => (a y z).weak wk) (ih fd b)
          exact key fs fd z3
        · rw [List.getElem?_set_ne e] at hj
          have := solo_of so j C2 fd2 w2 hj
          omega
    cases b with
    | false =>
      obtain ⟨Av', S', p'⟩ := fin H2 vs xs (SA.grow e2 t2) (ext_lst e2 hD2) (r2.ext e2) (e2 _ _ upd_same fun ps z => by cases z) (pr.trans (Pres.ext e2))
      exact hu _ _ _ _ _ _ _ S' (g.pres p')
    | true =>
      have o2 : H2 o = some (.ins C dx (putF n (.ref l) fs)) := e2 _ _ upd_same fun ps z => by cases z
      show tBM K "list" rAppend (tFld K (tVar i) n) (tCons te tNil) σ H2 _
      refine ⟨.ref o, q1, o, C, dx, _, .ref l, rfl, o2, c, na, hlup fs, .inl ⟨rfl, _, SqL.of (ext_lst e2 hD2)⟩, hx rfl _ _ _ _ _ _ (SA.grow e2 t2) _ fun v H3 e3 t3 d3 => ?_⟩
      have e23 := e2.trans e3
      have l3 : H3 l = some (.lst vs) := ext_lst e23 hD2
      refine ⟨l, vs, v, rfl, rfl, l3, by rw [r2.length]; exact Nat.lt_of_lt_of_le hz (by decide), ?_⟩
      have S3 := SA.grow e23 t3
      have S4 : Sta K T Mu Av0 H0 (fun a => Av a ∨ a = l) (env.set i (.obj C (putD n none fd) w)) σ (upd H3 l (.lst (vs ++ [v]))) := by
        have fl : Fresh H0 l := fun u q => by
          refine Classical.byContradiction fun no => ?_
          by_cases hm : Mu l
          · obtain ⟨C2, dx2, fs2, z⟩ := S.mu l hm
            obtain ⟨ps, z2⟩ := f _ z
            cases z2
          · obtain ⟨ps, z⟩ := f u (S.gw l u q (fun ps z => no ⟨ps, z⟩) hm)
            exact no ⟨ps, z⟩
        refine ⟨fun b x h nn m => ?_, fun b h => ?_, fun p hp => ?_, S3.sub, fun a h => ?_, S3.len, fun j y hj => ?_, fun j y hj => ?_, S3.dis, fun j C2 fd2 w2 hj => ?_⟩
        · rw [upd_ne fun z => by subst z; obtain ⟨ps, z⟩ := fl x h; exact nn ps z]
          exact S3.gw b x h nn m
        · obtain ⟨C2, dx2, fs2, z⟩ := S3.mu b h
          exact ⟨C2, dx2, fs2, by rw [upd_ne fun q => by subst q; rw [l3] at z; cases z]; exact z⟩
        · obtain ⟨ps, z1, z2, z3⟩ := t3 p hp
          refine ⟨ps, by rw [upd_ne fun z => by rw [z, l3] at z1; cases z1]; exact z1, z2, fun pos cv hc => ?_⟩
          obtain ⟨c, c1, c2⟩ := z3 pos cv hc
          exact ⟨c, c1, by rw [upd_ne fun z => by subst z; rw [l3] at c2; unfold CodeO at c2; cases c2]; exact c2⟩
        · by_cases e : a = l
          · subst e; exact ⟨_, upd_same, fun ps z => by cases z⟩
          · rw [upd_ne e]; exact S3.av a h
        · obtain ⟨v, h1, h2⟩ := S3.dat j y hj
          exact ⟨v, h1, h2.mut (.inl (.inr rfl))⟩
        · obtain ⟨m, us, h1, h2, h3, h4, h5⟩ := S3.own j y hj
          have ne : m ≠ l := fun z => by
            by_cases e : i = j
            · subst e; rw [List.getElem?_set_self hil] at hj; cases hj
            · rw [List.getElem?_set_ne e] at hj
              obtain ⟨m', us', g1, g2, g3, g4, g5⟩ := S.own j y hj
              rw [h1] at g1; cases g1
              exact nl (z ▸ g4)
          exact ⟨m, us, h1, by rw [upd_ne ne]; exact h2, h3.mut (.inl (.inr rfl)), h4, h5⟩
        · obtain ⟨o2, dx2, fs2, z1, z2, z3, z4⟩ := S3.obj j C2 fd2 w2 hj
          exact ⟨o2, dx2, fs2, z1, by rw [upd_ne fun q => by subst q; rw [l3] at z2; cases z2]; exact z2, z3.map fun _ _ q => q.mut (.inl (.inr rfl)), z4⟩
      have p4 : Pres Av H (fun a => Av a ∨ a = l) (upd H3 l (.lst (vs ++ [v]))) := by
        have p3 := pr.trans (Pres.ext (Av := fun a => Av a ∨ a = l) e23)
        refine ⟨fun a ys z nz => ⟨?_, (p3.l a ys z nz).2⟩, fun a ys z nz => ⟨?_, (p3.t a ys z nz).2⟩⟩
        · rw [upd_ne fun q => (p3.l a ys z nz).2 (.inr q)]; exact (p3.l a ys z nz).1
        · rw [upd_ne fun q => (p3.t a ys z nz).2 (.inr q)]; exact (p3.t a ys z nz).1
      obtain ⟨Av', S', p'⟩ := fin _ (vs ++ [v]) (xs ++ [x]) S4 upd_same (((r2.ext e23).append (.cons d3 .nil)).mut (.inl (.inr rfl))) (by rw [upd_ne (Ne.symm hlo)]; exact e3 _ _ o2 fun ps z => by cases z) p4
      exact hu _ _ _ _ _ _ _ S' (g.pres p')
/-- a method's return -/
theorem run_retO (hi : env[i]? = some (.obj C fd .me)) (h : EvE K T te env x) : Run K T (tRet te) env (.rt x (some (C, fd))) := fun Mu Av0 H0 Av σ H D S g =>
  h _ _ _ _ _ _ S _ fun v H1 e1 t1 d1 => by
    have S1 := S.grow e1 t1
    obtain ⟨o, dx, fs, q1, q2, q3, q4⟩ := S1.obj i C fd .me hi
    exact g v H1 S1.gw t1 (d1.weak S.sub) fun b hb => by
      obtain rfl := q4.2 b hb
      exact ⟨dx, fs, q2, q3.map fun _ _ q => q.weak S.sub⟩
theorem run_retNO (hi : env[i]? = some (.obj C fd .me)) : Run K T tRetN env (.rt .none (some (C, fd))) := fun Mu Av0 H0 Av σ H D S g => by
  obtain ⟨o, dx, fs, q1, q2, q3, q4⟩ := S.obj i C fd .me hi
  exact g _ H S.gw S.tb .non fun b hb => by
    obtain rfl := q4.2 b hb
    exact ⟨dx, fs, q2, q3.map fun _ _ q => q.weak S.sub⟩
end
end FW
end
section
set_option Elab.async false
set_option linter.all false
set_option maxRecDepth 100000
set_option maxHeartbeats 1000000
/-! Methods over environments. -/
namespace FW
open PySem L2 LamX
variable {K : PySem.W.Frag} {T : List (Addr × Str)} {Mu Av0 Av Av' : Avs} {H0 H H' H1 H2 : Hp} {env env' : En} {σ σ' : L2.St}
/-- the promise of a method that writes its object: F fields args fields' result -/
def SpM (K : PySem.W.Frag) (T : List (Addr × Str)) (C : Addr) (n : Nat) (F : Fd → List PyData → Fd → PyData → Prop) : Sp := fun vs H Q _ => ∃ (Av : Avs) (o dx : Addr) (fs : List (Str × V)) (us : List V) (ds : List PyData) (r : PyData) (fd fd' : Fd),
  F fd ds fd' r ∧ vs = .ref o :: us ∧ us.length = n ∧ H o = some (.ins C dx fs) ∧ Flds K Av H fs fd ∧ Tabs T H ∧ (∀ a, Av a → ∃ o, H a = some o ∧ ∀ ps, o ≠ .tbl ps) ∧ DAll K Av H us ds ∧
  ∀ v H', (∀ b x, H b = some x → (∀ ps, x ≠ .tbl ps) → b ≠ o → H' b = some x) → Tabs T H' → DA K Av H' v r → (∃ dx' fs', H' o = some (.ins C dx' fs') ∧ Flds K Av H' fs' fd') → Q v H'
/-- .. that only reads it -/
def SpO (K : PySem.W.Frag) (T : List (Addr × Str)) (C : Addr) (n : Nat) (F : Fd → List PyData → PyData → Prop) : Sp := fun vs H Q _ => ∃ (Av : Avs) (o dx : Addr) (fs : List (Str × V)) (us : List V) (ds : List PyData) (r : PyData) (fd : Fd),
  F fd ds r ∧ vs = .ref o :: us ∧ us.length = n ∧ H o = some (.ins C dx fs) ∧ Flds K Av H fs fd ∧ Tabs T H ∧ (∀ a, Av a → ∃ o, H a = some o ∧ ∀ ps, o ≠ .tbl ps) ∧ DAll K Av H us ds ∧
  ∀ v H', ExtN H H' → Tabs T H' → DA K Av H' v r → Q v H'
section
variable {ta : TA} {x r : PyData} {xs ds : List PyData} {i j n : Nat} {C : Addr} {fd fd' : Fd} {w : Wr} {m : Str} {E : XK}
theorem ev_methO {F : Fd → List PyData → PyData → Prop} (hi : env[i]? = some (.obj C fd w)) (hm : fd.lookup m = none) (h : EvA K T ta env ds) (hF : F fd ds r) (hn : ds.length = n) : EvE K T (tMeth C m (SpO K T C n F) [] E (tVar i) ta) env r := fun Mu Av0 H0 Av σ H S Q q => by
  obtain ⟨o, dx, fs, q1, q2, q3, q4⟩ := S.obj i C fd w hi
  refine ⟨.ref o, q1, o, dx, fs, rfl, q2, q3.no hm, h _ _ _ _ _ _ S _ fun vs H1 e1 t1 d1 => ?_⟩
  refine ⟨Av, o, dx, fs, vs, ds, r, fd, hF, by rw [List.append_nil], by rw [d1.length]; exact hn, e1 _ _ q2 fun ps z => (by cases z), q3.map fun _ _ z => z.ext e1, t1, (S.grow e1 t1).av, d1, fun v H2 e2 t2 d2 => q v H2 (e1.trans e2) t2 d2⟩
/-- a method that writes, its result dropped or kept -/
theorem meth_core {F : Fd → List PyData → Fd → PyData → Prop} {Q : VK} (hi : env[i]? = some (.obj C fd w)) (hw : w ≠ .rd) (so : soloB i 0 env = true) (hm : fd.lookup m = none) (h : EvA K T ta env ds) (hF : F fd ds fd' r) (hn : ds.length = n) (S : Sta K T Mu Av0 H0 Av env σ H)
    (q : ∀ v H', Sta K T Mu Av0 H0 Av (env.set i (.obj C fd' w)) σ H' → Pres Av H Av H' → DA K Av H' v r → Q v H') : tMeth C m (SpM K T C n F) [] E (tVar i) ta σ H Q := by
  obtain ⟨o, dx, fs, q1, q2, q3, q4⟩ := S.obj i C fd w hi
  refine ⟨.ref o, q1, o, dx, fs, rfl, q2, q3.no hm, h _ _ _ _ _ _ S _ fun vs H1 e1 t1 d1 => ?_⟩
  have S1 := S.grow e1 t1
  have o1 := e1 _ _ q2 fun ps z => by cases z
  refine ⟨Av, o, dx, fs, vs, ds, r, fd, fd', hF, by rw [List.append_nil], by rw [d1.length]; exact hn, o1, q3.map fun _ _ z => z.ext e1, t1, S1.av, d1, fun v H2 k t2 d2 ⟨dx', fs', h', r'⟩ => ?_⟩
  exact q v H2 (S1.mutd hi hw so q1 k t2 h' r') ((Pres.ext e1).trans (Pres.mutd (i := 0) o1 k)) d2
theorem run_setM {F : Fd → List PyData → Fd → PyData → Prop} (hi : env[i]? = some (.obj C fd w)) (hw : w ≠ .rd) (so : soloB i 0 env = true) (hm : fd.lookup m = none) (h : EvA K T ta env ds) (hF : F fd ds fd' r) (hn : ds.length = n) (hj : j < env.length) : Run K T (tAsg (tMeth C m (SpM K T C n F) [] E (tVar i) ta) (gName j)) env (.nx ((env.set i (.obj C fd' w)).set j (.d r))) := fun Mu Av0 H0 Av σ H D S g =>
  meth_core hi hw so hm h hF hn S fun v H' S' p d => g _ _ _ (S'.set d (by rw [List.length_set]; exact hj)) p
theorem run_dropM {F : Fd → List PyData → Fd → PyData → Prop} (hi : env[i]? = some (.obj C fd w)) (hw : w ≠ .rd) (so : soloB i 0 env = true) (hm : fd.lookup m = none) (h : EvA K T ta env ds) (hF : F fd ds fd' r) (hn : ds.length = n) : Run K T (tDrop (tMeth C m (SpM K T C n F) [] E (tVar i) ta)) env (.nx (env.set i (.obj C fd' w))) := fun Mu Av0 H0 Av σ H D S g =>
  meth_core hi hw so hm h hF hn S fun v H' S' p d => g _ _ _ S' p
/-- a slot is set to a new object -/
theorem Sta.setO {o dx : Addr} {fs : List (Str × V)} (S : Sta K T Mu Av0 H0 Av env σ H) (hj : j < env.length) (h : H o = some (.ins C dx fs)) (r : Flds K Av H fs fd) (hw : match w with
    | .rd => True
    | .me => Mu o ∧ ∀ b, Mu b → b = o
    | .mine => Fresh H0 o) : Sta K T Mu Av0 H0 Av (env.set j (.obj C fd w)) (σ.set j (some (.ref o))) H where
  gw := S.gw
  mu := S.mu
  tb := S.tb
  sub := S.sub
  av := S.av
  len := by rw [List.length_set, List.length_set]; exact S.len
  dat := fun k y hk => by
    by_cases e : j = k
    · subst e; rw [List.getElem?_set_self hj] at hk; cases hk
    · rw [List.getElem?_set_ne e] at hk ⊢; exact S.dat k y hk
  own := fun k y hk => by
    by_cases e : j = k
    · subst e; rw [List.getElem?_set_self hj] at hk; cases hk
    · rw [List.getElem?_set_ne e] at hk ⊢; exact S.own k y hk
  dis := fun k l xs ys m hk hl a b => by
    by_cases e : j = k
    · subst e; rw [List.getElem?_set_self hj] at hk; cases hk
    · by_cases e2 : j = l
      · subst e2; rw [List.getElem?_set_self hj] at hl; cases hl
      · rw [List.getElem?_set_ne e] at hk a
        rw [List.getElem?_set_ne e2] at hl b
        exact S.dis k l xs ys m hk hl a b
  obj := fun k C2 fd2 w2 hk => by
    by_cases e : j = k
    · subst e; rw [List.getElem?_set_self hj] at hk; cases hk
      exact ⟨o, dx, fs, by rw [List.getElem?_set_self (by rw [S.len]; exact hj)], h, r, hw⟩
    · rw [List.getElem?_set_ne e] at hk ⊢; exact S.obj k C2 fd2 w2 hk
/-- name = C(..) -/
theorem run_make {F : Fd → List PyData → Fd → PyData → Prop} (h : EvA K T ta env ds) (hF : F [] ds fd' .none) (hn : ds.length = n) (hj : j < env.length) : Run K T (tAsg (tMake C (SpM K T C n F) [] E ta) (gName j)) env (.nx (env.set j (.obj C fd' .mine))) := fun Mu Av0 H0 Av σ H D S g =>
  h _ _ _ _ _ _ S _ fun vs H1 e1 t1 d1 x dx hx hdx ne => by
    have S1 := S.grow e1 t1
    have e2 : ExtN H1 (upd (upd H1 dx (.own x)) x (.ins C dx [])) := (new_of hdx).trans (new_of (by rw [upd_ne (Ne.symm ne)]; exact hx))
    have t2 : Tabs T (upd (upd H1 dx (.own x)) x (.ins C dx [])) := tabs_new (tabs_new t1 hdx) (by rw [upd_ne (Ne.symm ne)]; exact hx)
    have S2 := S1.grow e2 t2
    refine ⟨Av, x, dx, [], vs, ds, .none, [], fd', hF, by rw [List.append_nil], by rw [d1.length]; exact hn, upd_same, .nil, t2, S2.av, d1.ext e2, fun v H2 k t3 d2 ⟨dx', fs', h', r'⟩ => ?_⟩
    cases d2
    refine ⟨rfl, ?_⟩
    have e3 : ExtN H1 H2 := fun b u hb n => k b u (e2 b u hb n) n (ne_of_none hb hx)
    have S3 := S1.grow e3 t3
    have fx : Fresh H0 x := fun u q => by
      refine Classical.byContradiction fun no => ?_
      by_cases hm : Mu x
      · obtain ⟨C2, dx2, fs2, z⟩ := S1.mu x hm
        rw [hx] at z; cases z
      · have := S1.gw x u q (fun ps z => no ⟨ps, z⟩) hm
        rw [hx] at this; cases this
    exact g _ _ _ (S3.setO hj h' r' fx) ((Pres.ext (e1.trans e3)))
/-! ### the bodies -/
def argsO (C : Addr) (fd : Fd) (w : Wr) (ds : List PyData) (m : Nat) : En := .obj C fd w :: args ds m
theorem args_noobj {m j : Nat} {ds : List PyData} {C2 : Addr} {fd2 : Fd} {w2 : Wr} : ∀ _ : Unit, ¬ (args ds m)[j]? = some (.obj C2 fd2 w2) := fun _ hi => by
  unfold args at hi
  by_cases hl : j < ds.length
  · rw [List.getElem?_append_left (by simpa using hl), List.getElem?_map, Option.map_eq_some_iff] at hi
    obtain ⟨d, hd, e⟩ := hi
    cases e
  · rw [List.getElem?_append_right (by simpa using hl), List.getElem?_replicate] at hi
    split at hi <;> cases hi
theorem sta_startO {o dx : Addr} {fs : List (Str × V)} {us : List V} {N : List Str} {m : Nat} (ho : H o = some (.ins C dx fs)) (r : Flds K Av H fs fd) (h : DAll K Av H us ds) (t : Tabs T H) (av : ∀ a, Av a → ∃ o, H a = some o ∧ ∀ ps, o ≠ .tbl ps) (hn : N.length = us.length + 1 + m)
    (hmu : ∀ b, Mu b → b = o) (hw : match w with
    | .rd => True
    | .me => Mu o ∧ ∀ b, Mu b → b = o
    | .mine => Fresh H o) : Sta K T Mu Av H Av (argsO C fd w ds m) (L2.start N (.ref o :: us)) H := by
  have S := sta_start (N := N.drop 1) (n := m) h t av (by rw [List.length_drop]; omega)
  have e : L2.start N (.ref o :: us) = some (.ref o) :: L2.start (N.drop 1) us := by
    unfold L2.start
    simp only [List.map_cons, List.cons_append, List.length_cons, List.length_drop]
    congr 3
    omega
  rw [e]
  unfold argsO
  refine ⟨fun b x h _ _ => h, fun b hb => ?_, t, fun _ h => h, av, by simpa using S.len, fun j y hj => ?_, fun j y hj => ?_, fun j k as bs l hj hk a b => ?_, fun j C2 fd2 w2 hj => ?_⟩
  · obtain rfl := hmu b hb
    exact ⟨_, _, _, ho⟩
  · cases j with
    | zero => cases hj
    | succ j => exact S.dat j y (by simpa using hj)
  · cases j with
    | zero => cases hj
    | succ j => exact S.own j y (by simpa using hj)
  · cases j with
    | zero => cases hj
    | succ j =>
      cases k with
      | zero => cases hk
      | succ k =>
        have := S.dis j k as bs l (by simpa using hj) (by simpa using hk) (by simpa using a) (by simpa using b)
        omega
  · cases j with
    | zero =>
      simp at hj
      obtain ⟨rfl, rfl, rfl⟩ := hj
      exact ⟨o, dx, fs, rfl, ho, r, hw⟩
    | succ j => exact absurd (show (args ds m)[j]? = some (.obj C2 fd2 w2) by simpa using hj) (args_noobj ())
theorem run_defM {t : TS} {N : List Str} {m : Nat} {F : Fd → List PyData → Fd → PyData → Prop} (hN : N.length = n + 1 + m)
    (h : ∀ fd ds fd' r, F fd ds fd' r → ds.length = n → Run K T t (argsO C fd .me ds m) (.rt r (some (C, fd'))) ∨ (r = .none ∧ ∃ e, Run K T t (argsO C fd .me ds m) (.nx e) ∧ e[0]? = some (.obj C fd' .me))) {vs : List V} {Q : VK} {E : XK} (hs : SpM K T C n F vs H Q E) :
    t { nx := fun _ H' => Q .non H', rt := Q } (L2.start N vs) H := by
  obtain ⟨Av, o, dx, fs, us, ds, r, fd, fd', hF, rfl, hl, ho, hr, ht, hav, hd, k⟩ := hs
  have S := sta_startO (Mu := fun b => b = o) (N := N) (m := m) (w := .me) ho hr hd ht hav (by omega) (fun b hb => hb) ⟨rfl, fun b hb => hb⟩
  rcases h fd ds fd' r hF (by rw [← hd.length]; exact hl) with h | ⟨rfl, e, h, he⟩
  · exact h _ _ _ _ _ _ _ S fun v H' g t2 d ob => k v H' (fun b x z n ne => g b x z n ne) t2 d (ob o rfl)
  · refine h _ _ _ _ _ _ _ S fun a s H' S' p => ?_
    obtain ⟨o2, dx2, fs2, q1, q2, q3, q4⟩ := S'.obj 0 C fd' .me he
    obtain rfl : o2 = o := q4.1
    exact k _ H' (fun b x z n ne => S'.gw b x z n ne) S'.tb .non ⟨dx2, fs2, q2, q3.map fun _ _ z => z.weak S'.sub⟩
theorem run_defO {t : TS} {N : List Str} {m : Nat} {F : Fd → List PyData → PyData → Prop} (hN : N.length = n + 1 + m) (h : ∀ fd ds r, F fd ds r → ds.length = n → Run K T t (argsO C fd .rd ds m) (.ret r)) {vs : List V} {Q : VK} {E : XK} (hs : SpO K T C n F vs H Q E) :
    t { nx := fun _ H' => Q .non H', rt := Q } (L2.start N vs) H := by
  obtain ⟨Av, o, dx, fs, us, ds, r, fd, hF, rfl, hl, ho, hr, ht, hav, hd, k⟩ := hs
  have S := sta_startO (Mu := fun _ => False) (N := N) (m := m) (w := .rd) ho hr hd ht hav (by omega) (fun b hb => hb.elim) trivial
  exact h fd ds r hF (by rw [← hd.length]; exact hl) _ _ _ _ _ _ _ S fun v H' g t2 d ob => k v H' (fun b x z n => g b x z n id) t2 d
end
end FW
end
section
set_option Elab.async false
set_option linter.all false
set_option maxRecDepth 100000
set_option maxHeartbeats 2000000
/-! Defs as they stand, their promises. -/
namespace FD
open PySem PySem.Spec PyProof.Rows L2 LamX FW FT
/-- a def of the top as it stands -/
def Has (K : PySem.W.Frag) (mg : Str → Option Value) (x : Str) (st : Stmt) : Prop := ∃ f fd, FunD K x x (defArgs st) (defBody st) (defScope st) [] [] f fd ∧ mg x = some (.ref f)
/-- a def with its promise, ready to be called -/
def Dn (P : Program) (w : World) (K : PySem.W.Frag) (mg : Str → Option Value) (base : Heap) (k : Nat) (x : Str) (ps : List Str) (sp : Sp) : Prop :=
  ∃ f fd, FnOk P w K mg base CX0 k f fd ps sp ∧ mg x = some (.ref f) ∧ PySem.W.keepIn K (.ref f) = true ∧ Binds K fd ps []
section
variable {P : Program} {w : World} {K : PySem.W.Frag} {mg : Str → Option Value} {base : Heap} {T : List (Addr × Str)}
theorem mkD {x : Str} {st : Stmt} {N ps : List Str} {k n m : Nat} {F : List PyData → PyData → Prop} (h : Has K mg x st) (S : FnScope N ps (defScope st)) (hp : ps.length = n) (hN : N.length = n + m)
    (bind : ∀ (kV doc pm : Value) (an : Option Addr) (cdv ct : Value) (us : List Value), us.length = ps.length → bindArgs (PySem.W.fnOf x x (defArgs st) (defBody st) (defScope st) .none kV doc pm an cdv ct) ⟨us, []⟩ = pure (ps.zip us))
    (body : ∀ (f : Addr) (cdv : Value) (A : Around) (outer : List Env) (s : Shared) (H : Hp) (E : XK), Room k (A.deeper (envOfC x (defScope st) s.heap.objs.size f cdv)) →
      ∃ t, PSs (cxOf CX0 P w K mg base N x (defScope st) f cdv A outer s H E).nox (defBody st) t ∧ ∀ ds r, F ds r → ds.length = n → Run K T t (args ds m) (.ret r) ∨ (r = .none ∧ ∃ e, Run K T t (args ds m) (.nx e))) :
    Dn P w K mg base (k + 1) x ps (SpD K T n F) := by
  obtain ⟨f, fd, Fd, hm⟩ := h
  refine ⟨f, fd, Fd.ok S (fun vs H Q E h => ?_) (fun cdv A outer s H vs Q E hr h => ?_), hm, Fd.kp, Fd.bindsN bind⟩
  · obtain ⟨_, _, _, _, hl, _⟩ := h
    exact hl.trans hp.symm
  · obtain ⟨t, ht, hrun⟩ := body f cdv A outer s H E hr
    exact ⟨t, ht.nox, run_def hN hrun h⟩
theorem hu64 {k : Nat} {A : Around} (hr : Room k A) : A.units + 64 < cLine := by have := hr.un; omega
theorem hu65 {k : Nat} {A : Around} (hr : Room k A) : A.units + 65 < cLine := by have := hr.un; omega
/-- a for loop over a name, which is forgotten behind each turn -/
theorem run_forN {wi : TI} {tb : TS} {xs : List PyData} {env : En} {j : Nat} (hi : EvI K T wi env xs) (f : Nat → En) (f0 : f 0 = env) (hj : ∀ i, j < (f i).length)
    (turn : ∀ i x, xs[i]? = some x → ∃ e, (Run K T tb ((f i).set j (.d x)) (.nx e) ∨ Run K T tb ((f i).set j (.d x)) (.ct e)) ∧ e.set j .un = f (i + 1)) : Run K T (tFor wi (gName j) tb) env (.nx (f xs.length)) :=
  run_for hi f (fun i => (f i).set j (.d (xs.getD i .none))) f0 xs.length (Nat.le_refl _) (ws := [j]) (fun i x hx _ => by
    rw [List.getD_eq_getElem?_getD, hx]
    exact tg_name (hj i)) (fun i x hx _ => by
    obtain ⟨e, h, he⟩ := turn i x hx
    have q : xs.getD i .none = x := by rw [List.getD_eq_getElem?_getD, hx]; rfl
    rw [q, ← he]
    exact h.imp (run_endF j) (run_ctF j)) (.inl ⟨rfl, rfl⟩)
/-- .. left by a return in the turn m -/
theorem run_forR {wi : TI} {tb : TS} {xs : List PyData} {env : En} {j : Nat} {r x0 : PyData} {ob : Option (Addr × List (Str × Option PyData))} (hi : EvI K T wi env xs) (f : Nat → En) (f0 : f 0 = env) (hj : ∀ i, j < (f i).length) (m : Nat) (hm : xs[m]? = some x0)
    (turn : ∀ i x, xs[i]? = some x → i < m → ∃ e, (Run K T tb ((f i).set j (.d x)) (.nx e) ∨ Run K T tb ((f i).set j (.d x)) (.ct e)) ∧ e.set j .un = f (i + 1)) (last : Run K T tb ((f m).set j (.d x0)) (.rt r ob)) : Run K T (tFor wi (gName j) tb) env (.rt r ob) := by
  have hlt := (List.getElem?_eq_some_iff.mp hm).1
  refine run_for hi f (fun i => (f i).set j (.d (xs.getD i .none))) f0 m (Nat.le_of_lt hlt) (ws := [j]) (fun i x hx _ => by
    rw [List.getD_eq_getElem?_getD, hx]
    exact tg_name (hj i)) (fun i x hx him => by
    obtain ⟨e, h, he⟩ := turn i x hx him
    have q : xs.getD i .none = x := by rw [List.getD_eq_getElem?_getD, hx]; rfl
    rw [q, ← he]
    exact h.imp (run_endF j) (run_ctF j)) (.inr ⟨hlt, .inl ⟨r, ob, rfl, ?_⟩⟩)
  have q : xs.getD m .none = x0 := by rw [List.getD_eq_getElem?_getD, hm]; rfl
  rw [q]; exact last
theorem run_endW {t : TS} {e : En} : ∀ (js : List Nat) {env : En}, Run K T t env (.nx e) → Run K T t env (.nx (wipeE e js))
  | [], _, h => h
  | j :: js, _, h => run_endF j (run_endW js h)
theorem run_ctW {t : TS} {e : En} : ∀ (js : List Nat) {env : En}, Run K T t env (.ct e) → Run K T t env (.ct (wipeE e js))
  | [], _, h => h
  | j :: js, _, h => run_ctF j (run_ctW js h)
/-- a for loop over any target -/
theorem run_forT {wi : TI} {g : TG} {tb : TS} {xs : List PyData} {env : En} {ws : List Nat} (hi : EvI K T wi env xs) (f : Nat → En) (f0 : f 0 = env) (js : List Nat)
    (turn : ∀ i x, xs[i]? = some x → ∃ h e, TgE K T g (f i) x h ws ∧ (Run K T tb h (.nx e) ∨ Run K T tb h (.ct e)) ∧ wipeE e js = f (i + 1)) : Run K T (tFor wi g tb) env (.nx (f xs.length)) := by
  have ch : ∀ i, ∃ h, ∀ x, xs[i]? = some x → TgE K T g (f i) x h ws ∧ (Run K T tb h (.nx (f (i + 1))) ∨ Run K T tb h (.ct (f (i + 1)))) := fun i => by
    cases q : xs[i]? with
    | none => exact ⟨[], fun x hx => nomatch hx⟩
    | some x =>
      obtain ⟨h, e, a, b, c⟩ := turn i x q
      refine ⟨h, fun y hy => ?_⟩
      cases hy
      rw [← c]
      exact ⟨a, b.imp (run_endW js) (run_ctW js)⟩
  exact run_forA hi f (fun i => (ch i).choose) f0 (fun i x hx => ((ch i).choose_spec x hx).1) (fun i x hx => ((ch i).choose_spec x hx).2)
/-- .. left by a return in the turn m -/
theorem run_forTR {wi : TI} {g : TG} {tb : TS} {xs : List PyData} {env hm : En} {ws : List Nat} {r x0 : PyData} {ob : Option (Addr × List (Str × Option PyData))} (hi : EvI K T wi env xs) (f : Nat → En) (f0 : f 0 = env) (js : List Nat) (m : Nat) (hx0 : xs[m]? = some x0)
    (turn : ∀ i x, xs[i]? = some x → i < m → ∃ h e, TgE K T g (f i) x h ws ∧ (Run K T tb h (.nx e) ∨ Run K T tb h (.ct e)) ∧ wipeE e js = f (i + 1)) (tg : TgE K T g (f m) x0 hm ws) (last : Run K T tb hm (.rt r ob)) : Run K T (tFor wi g tb) env (.rt r ob) := by
  have hlt := (List.getElem?_eq_some_iff.mp hx0).1
  have ch : ∀ i, ∃ h, ∀ x, xs[i]? = some x → (i < m → TgE K T g (f i) x h ws ∧ (Run K T tb h (.nx (f (i + 1))) ∨ Run K T tb h (.ct (f (i + 1))))) ∧ (i = m → TgE K T g (f i) x h ws ∧ h = hm) := fun i => by
    cases q : xs[i]? with
    | none => exact ⟨[], fun x hx => nomatch hx⟩
    | some x =>
      by_cases e : i = m
      · subst e
        rw [hx0] at q; cases q
        exact ⟨hm, fun y hy => by cases hy; exact ⟨fun z => absurd z (Nat.lt_irrefl _), fun _ => ⟨tg, rfl⟩⟩⟩
      · by_cases l : i < m
        · obtain ⟨h, e', a, b, c⟩ := turn i x q l
          refine ⟨h, fun y hy => ?_⟩
          cases hy
          rw [← c]
          exact ⟨fun _ => ⟨a, b.imp (run_endW js) (run_ctW js)⟩, fun z => absurd z e⟩
        · exact ⟨[], fun y hy => ⟨fun z => absurd z l, fun z => absurd z e⟩⟩
  refine run_for (ws := ws) hi f (fun i => (ch i).choose) f0 m (Nat.le_of_lt hlt) (fun i x hx him => ?_) (fun i x hx him => (((ch i).choose_spec x hx).1 him).2) (.inr ⟨hlt, .inl ⟨r, ob, rfl, ?_⟩⟩)
  · rcases Nat.lt_or_ge i m with l | l
    · exact (((ch i).choose_spec x hx).1 l).1
    · obtain rfl : i = m := by omega
      exact (((ch i).choose_spec x hx).2 rfl).1
  · rw [(((ch m).choose_spec x0 hx0).2 rfl).2]; exact last
/-- all items below 2 ^ k -/
def Bd (k : Nat) (v : List Int) : Prop := ∀ x ∈ v, x.natAbs < 2 ^ k
theorem Bd.mono {j k : Nat} {v : List Int} (h : Bd j v) (e : j ≤ k) : Bd k v := fun x hx => Nat.lt_of_lt_of_le (h x hx) (Nat.pow_le_pow_right (by decide) e)
theorem get_dV {v : List Int} {i : Nat} (h : i < v.length) : (v.map PyData.int)[i]? = some (.int (FM.col v i)) := by
  rw [List.getElem?_map, List.getElem?_eq_getElem h, FM.col_get h]; rfl
theorem ix_listK {X : Cx} {K : PySem.W.Frag} (hK : X.K = K) : IxR X (rIxL K) := hK ▸ ix_list
theorem ix_tupK {X : Cx} {K : PySem.W.Frag} (hK : X.K = K) : IxR X (rIxT K) := hK ▸ ix_tup
theorem sl_listK {X : Cx} {K : PySem.W.Frag} (hK : X.K = K) : SlR X (rSlL K) := hK ▸ sl_list
theorem op_neDK {X : Cx} {K : PySem.W.Frag} (hK : X.K = K) (hu : X.A.units + 64 < cLine) : OpR X (compareOp .NotEq) (rNeD K) := hK ▸ op_neD hu
theorem cr_anyK {X : Cx} {K : PySem.W.Frag} (hK : X.K = K) (hc : X.calm = true) : CallR X (.builtin "any") (rAny K) := hK ▸ cr_any hc
theorem cr_allK {X : Cx} {K : PySem.W.Frag} (hK : X.K = K) (hc : X.calm = true) : CallR X (.builtin "all") (rAll K) := hK ▸ cr_all hc
theorem cr_sumK {X : Cx} {K : PySem.W.Frag} (hK : X.K = K) (hc : X.calm = true) : CallR X (.builtin "sum") (rSum K) := hK ▸ cr_sum hc
theorem pi_listK {X : Cx} {K : PySem.W.Frag} {l tg : Expr} {tl : TE} (hK : X.K = K) (hl : PE X l tl) : PI X tg l (iList K tl) := hK ▸ pi_list hl
theorem call_lenK {X : Cx} {K : PySem.W.Frag} (hK : X.K = K) : CallR X (.builtin "len") (fun vs H Q => ∃ p ys, vs = [.ref p] ∧ (SqL K H p ys ∨ SqT K H p ys) ∧ Q (.int ys.length) H) := hK ▸ call_len_seq
theorem pg_tupK {X : Cx} {K : PySem.W.Frag} {es : List Expr} {k : Nat} {t : TGs} {n : Nat} {pos : Pos} (hK : X.K = K) (hc : X.calm = true) (h : PGs X es t)
    (hn : (assignEach es X.env).length = n := by rfl) (hst : (assignEach es X.env).findIdx? (·.1) = none := by rfl) : PG X (.Tuple es k pos) (gTup K n t) := hK ▸ pg_tup hc h hn hst
end
end FD
end
section
set_option Elab.async false
set_option linter.all false
set_option maxRecDepth 100000
set_option maxHeartbeats 2000000
/-! vectors: common_divisor .. -/
namespace FD
open PySem PySem.Spec PyProof.Rows L2 LamX FW FT
variable {P : Program} {w : World} {K : PySem.W.Frag} {mg : Str → Option Value} {base : Heap} {T : List (Addr × Str)}
abbrev n_common_divisor : List Str := ["vector", "divisor", "item"]
theorem sc_common_divisor : FnScope n_common_divisor ["vector"] (defScope (top 6)) := ⟨rfl, rfl, rfl, by decide +kernel, rfl, by decide +kernel, by decide +kernel⟩
def F_common_divisor (ds : List PyData) (r : PyData) : Prop := ∃ v : List Int, ds = [dV v] ∧ r = .int (FM.gcdL v : Nat)
theorem D_common_divisor (h : Has K mg "common_divisor" (top 6)) (m_gcd : mg "gcd" = some (.builtin "math.gcd")) : Dn P w K mg base 1 "common_divisor" ["vector"] (SpD K T 1 F_common_divisor) := by
  have nd := sc_common_divisor.nd
  refine mkD (m := 2) h sc_common_divisor rfl rfl (fun _ _ _ _ _ _ us hl => match us, hl with | [_], _ => rfl) fun f cdv A outer s H E hr => ⟨_, pss_cons (ps_set (i := 1) nd rfl (Or.inl rfl) (pe_int)) (pss_cons (ps_for PassesOwn.never rfl (pi_list (pv 0)) (pg_name (i := 2) nd rfl (Or.inl rfl)) (pss_one (ps_set (i := 1) nd rfl (Or.inl rfl) (pe_callBfun cr_gcd (by rfl) m_gcd (pa_cons (pv 1) (pa_cons (pv 2) pa_nil)))))) (pss_one (ps_ret (pv 1)))), ?_⟩
  rintro ds r ⟨v, rfl, rfl⟩ _
  refine .inl ?_
  refine run_seq (run_set ev_int (by simp [args])) ?_
  refine run_seq (run_forN (ei_list (ev_var rfl)) (fun i => [.d (dV v), .d (.int ((v.take i).foldl (fun d x => Nat.gcd d x.natAbs) 0 : Nat)), .un]) rfl (fun i => by simp) ?_) ?_
  · intro i x hx
    rw [List.getElem?_map, Option.map_eq_some_iff] at hx
    obtain ⟨z, hz, rfl⟩ := hx
    refine ⟨_, .inl (run_set (ev_gcd (ev_var rfl) (ev_var rfl)) (by simp)), ?_⟩
    rw [List.take_add_one, hz]
    simp
  · refine run_ret (ev_var ?_)
    rw [List.length_map, List.take_length]
    rfl

abbrev n_primitive : List Str := ["vector", "divisor", "item"]
theorem sc_primitive : FnScope n_primitive ["vector"] (defScope (top 7)) := ⟨rfl, rfl, rfl, by decide +kernel, rfl, by decide +kernel, by decide +kernel⟩
theorem gcd_small {v : List Int} {k : Nat} (h : Bd k v) (h1 : 1 < FM.gcdL v) : FM.gcdL v < 2 ^ k := by
  refine Classical.byContradiction fun no => ?_
  have all : ∀ x ∈ v, x = 0 := fun x hx => by
    obtain ⟨y, hy⟩ := FM.gcdL_dvd v x hx
    have hs := h x hx
    rw [hy, Int.natAbs_mul, Int.natAbs_natCast] at hs
    have : y.natAbs = 0 := by
      refine Classical.byContradiction fun q => ?_
      have : FM.gcdL v * 1 ≤ FM.gcdL v * y.natAbs := Nat.mul_le_mul_left _ (by omega)
      omega
    rw [hy, Int.natAbs_eq_zero.mp this]; simp
  have hd : FM.gcdL v = 0 := by
    have := FM.dvd_gcdL (d := 0) v fun x hx => by rw [all x hx]; simp
    exact Nat.eq_zero_of_zero_dvd this
  omega
def F_primitive (ds : List PyData) (r : PyData) : Prop := ∃ v : List Int, ds = [dV v] ∧ Bd 8990 v ∧ v.length ≤ 1000 ∧ r = dV (FM.primitive v)
theorem D_primitive (h : Has K mg "primitive" (top 7)) (d1 : Dn P w K mg base 1 "common_divisor" ["vector"] (SpD K T 1 F_common_divisor)) (m_list : mg "list" = none) : Dn P w K mg base 2 "primitive" ["vector"] (SpD K T 1 F_primitive) := by
  have nd := sc_primitive.nd
  obtain ⟨_, _, G_common_divisor, m_common_divisor, k_common_divisor, b_common_divisor⟩ := d1
  refine mkD (m := 2) h sc_primitive rfl rfl (fun _ _ _ _ _ _ us hl => match us, hl with | [_], _ => rfl) fun f cdv A outer s H E hr => ⟨_, pss_cons (ps_set (i := 1) nd rfl (Or.inr rfl) (pe_call G_common_divisor (hr.mono (by decide)) (by rfl) m_common_divisor k_common_divisor b_common_divisor .nil pass0 (pa_cons (pv 0) pa_nil))) (pss_cons (ps_if (pt_cmpR op_le (pv 1) (pe_int) (nomark _)) (pss_one (ps_ret (pe_callTy call_list_of (by rfl) m_list (by decide +kernel) (pa_cons (pv 0) pa_nil)))) (pss_nil)) (pss_one (ps_ret (pe_lc (own := [("item", 2)]) rfl nd (pi_list (pv 0)) (blkOk_by (own := [("item", 2)]) (N := n_primitive) (sc := defScope (top 7)) (by decide +kernel)) (fun _ _ _ _ _ => pg_name (i := 2) nd rfl (Or.inl rfl)) (fun _ _ _ _ _ => pts_nil) (fun _ _ _ _ _ => pe_op op_fdivW (pv 2) (pv 1)))))), ?_⟩
  rintro ds r ⟨v, rfl, hb, hl, rfl⟩ _
  refine .inl ?_
  refine run_seq (run_set (ev_call (ea_cons (ev_var rfl) ea_nil) ⟨v, rfl, rfl⟩ rfl) (by simp [args])) ?_
  by_cases hg : FM.gcdL v ≤ 1
  · have e : FM.primitive v = v := by unfold FM.primitive; rw [if_pos hg]
    rw [e]
    refine run_seqR (run_if (et_test (ev_op (ev_var rfl) ev_int op_leI)) (fun _ => ?_) (fun q => ?_))
    · exact run_ret (en_list (ev_var rfl)).e
    · exact absurd q (by simp; omega)
  · have e : FM.primitive v = v.map fun x => x / (FM.gcdL v : Int) := by unfold FM.primitive; rw [if_neg hg]
    rw [e]
    refine run_seq (run_if (et_test (ev_op (ev_var rfl) ev_int op_leI)) (fun q => ?_) (fun _ => run_next)) ?_
    · exact absurd q (by simp; omega)
    · have gs := gcd_small hb (by omega)
      have em : (dV (v.map fun x => x / (FM.gcdL v : Int))) = .list ((v.map PyData.int).map fun d => match d with | .int x => .int (x / (FM.gcdL v : Int)) | d => d) := by
        unfold dV; rw [List.map_map, List.map_map]; rfl
      rw [em]
      refine run_ret (en_map (ei_list (ev_var rfl)) _ (vs := [2]) (by simp [args]) (fun x => [.d (dV v), .d (.int (FM.gcdL v : Nat)), .d x]) (by rw [List.length_map]; omega) (ws := [2]) (by simp) (fun x hx => tg_name (by simp [wipeE, args])) (fun x hx => ?_)).e
      obtain ⟨z, hz, rfl⟩ := List.mem_map.mp hx
      refine ev_op (ev_var rfl) (ev_var rfl) (op_div ⟨by omega, ?_⟩)
      exact PySem.Flt.log2_lt_of (by decide) (by rw [Int.natAbs_natCast]; exact Nat.lt_trans gs (Nat.pow_lt_pow_right (by decide) (by decide)))

abbrev n_dot : List Str := ["first", "second", "a", "b"]
theorem sc_dot : FnScope n_dot ["first", "second"] (defScope (top 8)) := ⟨rfl, rfl, rfl, by decide +kernel, rfl, by decide +kernel, by decide +kernel⟩
theorem wmul {i j : Int} {a b : Nat} (ha : i.natAbs < 2 ^ a) (hb : j.natAbs < 2 ^ b) (h : a + b ≤ 900000) : CMulW i j :=
  wide_mul (a := a + 1) (b := b + 1) (Nat.lt_of_lt_of_le ha (Nat.pow_le_pow_right (by decide) (by omega))) (Nat.lt_of_lt_of_le hb (Nat.pow_le_pow_right (by decide) (by omega))) (by omega) (by omega) (by omega)
theorem dot_zip : ∀ u v : List Int, FM.dot u v = ((u.zip v).map fun p => p.1 * p.2).sum
  | [], v => by simp
  | _ :: _, [] => by simp
  | x :: u, y :: v => by rw [FM.dot_cons, dot_zip u v]; simp
theorem comb_zip (a b : Int) : ∀ u v : List Int, FM.comb a u b v = (u.zip v).map fun p => a * p.1 + b * p.2
  | [], v => by simp
  | _ :: _, [] => by simp [FM.comb]
  | x :: u, y :: v => by rw [FM.comb_cons, comb_zip a b u v]; simp
def F_dot (ds : List PyData) (r : PyData) : Prop := ∃ u v : List Int, ds = [dV u, dV v] ∧ Bd 400000 u ∧ Bd 400000 v ∧ u.length ≤ 1000 ∧ r = .int (FM.dot u v)
theorem zip_pairs (u v : List Int) : (((u.map PyData.int).zip (v.map PyData.int)).map fun p => PyData.tuple [p.1, p.2]) = (u.zip v).map fun p => PyData.tuple [.int p.1, .int p.2] := by
  rw [List.zip_map, List.map_map]; rfl
theorem D_dot (h : Has K mg "dot" (top 8)) (m_zip : mg "zip" = none) (m_sum : mg "sum" = none) : Dn P w K mg base 1 "dot" ["first", "second"] (SpD K T 2 F_dot) := by
  have nd := sc_dot.nd
  refine mkD (m := 2) h sc_dot rfl rfl (fun _ _ _ _ _ _ us hl => match us, hl with | [_, _], _ => rfl) fun f cdv A outer s H E hr => ⟨_, pss_one (ps_ret (pe_callB (cr_sum rfl) (by rfl) m_sum (by decide +kernel) (by exact (pa_cons (pe_lc (own := [("a", 2), ("b", 3)]) rfl nd (pi_zip (by rfl) m_zip (pa_cons (pv 0) (pa_cons (pv 1) pa_nil))) (blkOk_by (own := [("a", 2), ("b", 3)]) (N := n_dot) (sc := defScope (top 8)) (by decide +kernel)) (fun _ _ _ _ _ => pg_tupK (K := K) (n := 2) rfl rfl (pgs_cons (pg_name (i := 2) nd rfl (Or.inl rfl)) (pgs_cons (pg_name (i := 3) nd rfl (Or.inl rfl)) pgs_nil))) (fun _ _ _ _ _ => pts_nil) (fun _ _ _ _ _ => pe_op op_mulW (pv 2) (pv 3))) pa_nil)))), ?_⟩
  rintro ds r ⟨u, v, rfl, hu, hv, hl, rfl⟩ _
  refine .inl (run_ret ?_)
  rw [dot_zip]
  refine ev_sum (ev_eq (en_map (ei_zip (ea_cons (ev_var rfl) (ea_cons (ev_var rfl) ea_nil))) (fun d => match d with | .tuple [.int x, .int y] => .int (x * y) | d => d) (vs := [2, 3]) (by simp [args])
    (fun d => match d with | .tuple [x, y] => [.d (dV u), .d (dV v), .d x, .d y] | _ => []) ?_ (ws := [2, 3]) (by simp) ?_ ?_).e ?_)
  · simp; omega
  · intro x hx
    rw [zip_pairs] at hx
    obtain ⟨p, hp, rfl⟩ := List.mem_map.mp hx
    exact tg_tup (tgs_cons (tg_name (by simp [wipeE, args])) (tgs_cons (tg_name (by simp [wipeE, args])) tgs_nil)) rfl
  · intro x hx
    rw [zip_pairs] at hx
    obtain ⟨p, hp, rfl⟩ := List.mem_map.mp hx
    have h1 := List.of_mem_zip hp
    exact ev_op (ev_var rfl) (ev_var rfl) (op_mul (wmul (hu _ h1.1) (hv _ h1.2) (by decide)))
  · rw [zip_pairs, List.map_map, List.map_map]; rfl

abbrev n_combined : List Str := ["first", "vector", "second", "other", "a", "b"]
theorem sc_combined : FnScope n_combined ["first", "vector", "second", "other"] (defScope (top 9)) := ⟨rfl, rfl, rfl, by decide +kernel, rfl, by decide +kernel, by decide +kernel⟩
def F_combined (ds : List PyData) (r : PyData) : Prop := ∃ (a b : Int) (u v : List Int), ds = [.int a, dV u, .int b, dV v] ∧ Bd 400000 u ∧ Bd 400000 v ∧ a.natAbs < 2 ^ 400000 ∧ b.natAbs < 2 ^ 400000 ∧ u.length ≤ 1000 ∧ r = dV (FM.comb a u b v)
theorem D_combined (h : Has K mg "combined" (top 9)) (m_zip : mg "zip" = none) : Dn P w K mg base 1 "combined" ["first", "vector", "second", "other"] (SpD K T 4 F_combined) := by
  have nd := sc_combined.nd
  refine mkD (m := 2) h sc_combined rfl rfl (fun _ _ _ _ _ _ us hl => match us, hl with | [_, _, _, _], _ => rfl) fun f cdv A outer s H E hr => ⟨_, pss_one (ps_ret (pe_lc (own := [("a", 4), ("b", 5)]) rfl nd (pi_zip (by rfl) m_zip (pa_cons (pv 1) (pa_cons (pv 3) pa_nil))) (blkOk_by (own := [("a", 4), ("b", 5)]) (N := n_combined) (sc := defScope (top 9)) (by decide +kernel)) (fun _ _ _ _ _ => pg_tupK (K := K) (n := 2) rfl rfl (pgs_cons (pg_name (i := 4) nd rfl (Or.inl rfl)) (pgs_cons (pg_name (i := 5) nd rfl (Or.inl rfl)) pgs_nil))) (fun _ _ _ _ _ => pts_nil) (fun _ _ _ _ _ => pe_op op_add (pe_op op_mulW (pv 0) (pv 4)) (pe_op op_mulW (pv 2) (pv 5))))), ?_⟩
  rintro ds r ⟨a, b, u, v, rfl, hu, hv, ha, hb, hl, rfl⟩ _
  refine .inl (run_ret ?_)
  rw [comb_zip]
  refine ev_eq (en_map (ei_zip (ea_cons (ev_var rfl) (ea_cons (ev_var rfl) ea_nil))) (fun d => match d with | .tuple [.int x, .int y] => .int (a * x + b * y) | d => d) (vs := [4, 5]) (by simp [args])
    (fun d => match d with | .tuple [x, y] => [.d (.int a), .d (dV u), .d (.int b), .d (dV v), .d x, .d y] | _ => []) ?_ (ws := [4, 5]) (by simp) ?_ ?_).e ?_
  · simp; omega
  · intro x hx
    rw [zip_pairs] at hx
    obtain ⟨p, hp, rfl⟩ := List.mem_map.mp hx
    exact tg_tup (tgs_cons (tg_name (by simp [wipeE, args])) (tgs_cons (tg_name (by simp [wipeE, args])) tgs_nil)) rfl
  · intro x hx
    rw [zip_pairs] at hx
    obtain ⟨p, hp, rfl⟩ := List.mem_map.mp hx
    have h1 := List.of_mem_zip hp
    exact ev_op (ev_op (ev_var rfl) (ev_var rfl) (op_mul (wmul ha (hu _ h1.1) (by decide)))) (ev_op (ev_var rfl) (ev_var rfl) (op_mul (wmul hb (hv _ h1.2) (by decide)))) op_add
  · unfold dV
    rw [zip_pairs, List.map_map, List.map_map]; rfl

abbrev n_pivot_of : List Str := ["vector", "column"]
theorem sc_pivot_of : FnScope n_pivot_of ["vector"] (defScope (top 10)) := ⟨rfl, rfl, rfl, by decide +kernel, rfl, by decide +kernel, by decide +kernel⟩
def dP (o : Option Nat) : PyData := match o with
  | none => .none
  | some p => .int (p : Nat)
def F_pivot_of (ds : List PyData) (r : PyData) : Prop := ∃ v : List Int, ds = [dV v] ∧ v.length ≤ 1000 ∧ r = dP (FM.pivotOf v)
theorem firstNZ_tail {x : Int} {v : List Int} (h : FM.firstNZ v = none) : ∀ c, 0 < c → c < (x :: v).length → FM.col (x :: v) c = 0 := fun c h0 hc => by
  cases c with
  | zero => omega
  | succ c =>
    have : FM.col (x :: v) (c + 1) = FM.col v c := by simp [FM.col]
    rw [this, FM.firstNZ_none h, FM.col_zeros]
theorem D_pivot_of (h : Has K mg "pivot_of" (top 10)) (m_range : mg "range" = none) (m_len : mg "len" = none) : Dn P w K mg base 1 "pivot_of" ["vector"] (SpD K T 1 F_pivot_of) := by
  have nd := sc_pivot_of.nd
  refine mkD (m := 1) h sc_pivot_of rfl rfl (fun _ _ _ _ _ _ us hl => match us, hl with | [_], _ => rfl) fun f cdv A outer s H E hr => ⟨_, pss_cons (ps_for PassesOwn.never rfl (pi_range2 (by rfl) m_range (pa_cons (pe_int) (pa_cons (pe_callB call_len_seq (by rfl) m_len PySem.boot_len (pa_cons (pv 0) pa_nil)) pa_nil))) (pg_name (i := 1) nd rfl (Or.inl rfl)) (pss_one (ps_if (pt_cmpR op_ne (pe_ix ix_list (pv 0) (pv 1) (fun _ _ => rfl)) (pe_int) (nomark _)) (pss_one (ps_ret (pv 1))) (pss_nil)))) (pss_cons (ps_if (PW.pt (pw_and (pt_cmpR op_gt (pe_callB call_len_seq (by rfl) m_len PySem.boot_len (pa_cons (pv 0) pa_nil)) (pe_int) (nomark _)) (pw_and1 (pt_cmpR op_ne (pe_ix ix_list (pv 0) (pe_int) (fun _ _ => rfl)) (pe_int) (nomark _))))) (pss_one (ps_ret (pe_int))) (pss_nil)) (pss_one (ps_ret (pe_non)))), ?_⟩
  rintro ds r ⟨v, rfl, hl, rfl⟩ _
  refine .inl ?_
  have rng : EvI K T _ (args [dV v] 1) ((List.range (((v.map PyData.int).length : Nat) - 1 : Int).toNat).map fun i => .int (1 + (i : Nat))) := ei_range2 (lo := 1) (n := ((v.map PyData.int).length : Nat)) (ea_cons ev_int (ea_cons (ev_len (ev_var (i := 0) rfl)) ea_nil)) (by decide) (by rw [List.length_map]; omega) (by omega)
  have skip : ∀ (i : Nat) (x : PyData), ((List.range (((v.map PyData.int).length : Nat) - 1 : Int).toNat).map fun i => PyData.int (1 + (i : Nat)))[i]? = some x → x = .int ((1 + i : Nat) : Int) ∧ 1 + i < v.length := fun i x hx => by
    rw [List.getElem?_map, Option.map_eq_some_iff] at hx
    obtain ⟨j, hj, rfl⟩ := hx
    obtain ⟨h1, h2⟩ := List.getElem?_eq_some_iff.mp hj
    rw [List.getElem_range] at h2
    rw [List.length_range, List.length_map] at h1
    exact ⟨by rw [← h2]; simp, by omega⟩
  have turn0 : ∀ (c : Nat), c < v.length → FM.col v c = 0 → ∃ e, (Run K T (tIfS (tTest (tOp rNe (tOp (rIxL K) (tVar 0) (tVar 1)) (tC (.int 0)))) (tRet (tVar 1)) tNext) ([Ent.d (dV v), .d (.int (c : Nat))]) (.nx e) ∨ False) ∧ e.set 1 .un = args [dV v] 1 := fun c hc hz => by
    refine ⟨_, .inl (run_if (b := false) (et_eq (et_test (ev_op (ev_op (ev_var rfl) (ev_var rfl) (op_ixL (at_nat (get_dV hc)))) ev_int op_neI)) (by rw [hz]; rfl)) (fun q => by cases q) (fun _ => run_next)), rfl⟩
  cases v with
  | nil =>
    refine run_seq (run_forN rng (fun _ => args [dV []] 1) rfl (fun i => by simp [args]) (fun i x hx => by simp at hx)) ?_
    refine run_seq (run_if (b := false) (et_eq (et_and (et_test (ev_op (ev_len (ev_var rfl)) ev_int op_gtI)) (b := false) (fun q => by simp at q)) (by simp)) (fun q => by cases q) (fun _ => run_next)) ?_
    exact run_ret ev_non
  | cons x v =>
    cases e : FM.firstNZ v with
    | some k =>
      obtain ⟨k1, k2, k3⟩ := FM.firstNZ_some e
      have hp : FM.pivotOf (x :: v) = some (k + 1) := by rw [FM.pivotOf_cons, e]
      rw [hp]
      have cs : ∀ j, FM.col (x :: v) (j + 1) = FM.col v j := fun j => by simp [FM.col]
      refine run_seqR (run_forR rng (fun _ => args [dV (x :: v)] 1) rfl (fun i => by simp [args]) k (x0 := .int ((1 + k : Nat) : Int)) ?_ ?_ ?_)
      · rw [List.getElem?_map, List.getElem?_range (by simp; omega)]
        simp
      · intro i y hy him
        obtain ⟨rfl, hi⟩ := skip i y hy
        obtain ⟨en, h1, h2⟩ := turn0 (1 + i) hi (by rw [Nat.add_comm, cs]; exact k3 i him)
        exact ⟨en, .inl (h1.resolve_right id), h2⟩
      · refine run_if (b := true) (et_eq (et_test (ev_op (ev_op (ev_var rfl) (ev_var rfl) (op_ixL (at_nat (get_dV (by simp; omega))))) ev_int op_neI)) ?_) (fun _ => run_ret (ev_eq (ev_var rfl) (by simp [dP]; omega))) (fun q => by cases q)
        have : FM.col (x :: v) (1 + k) ≠ 0 := by rw [Nat.add_comm, cs]; exact k2
        simp [this]
    | none =>
      refine run_seq (run_forN rng (fun _ => args [dV (x :: v)] 1) rfl (fun i => by simp [args]) (fun i y hy => ?_)) ?_
      · obtain ⟨rfl, hi⟩ := skip i y hy
        obtain ⟨en, h1, h2⟩ := turn0 (1 + i) hi (firstNZ_tail e _ (by omega) hi)
        exact ⟨en, .inl (h1.resolve_right id), h2⟩
      · have hp : FM.pivotOf (x :: v) = if x ≠ 0 then some 0 else none := by rw [FM.pivotOf_cons, e]
        rw [hp]
        have tst : EvT K T _ (args [dV (x :: v)] 1) (decide (x ≠ 0)) := et_eq (et_and (et_test (ev_op (ev_len (ev_var (i := 0) rfl)) (ev_int (i := 0)) op_gtI)) (fun _ => et_test (ev_op (ev_op (ev_var (i := 0) rfl) ev_int (op_ixL (i := 0) (at_nat (i := 0) (get_dV (v := x :: v) (by simp))))) (ev_int (i := 0)) op_neI))) (by
          have : FM.col (x :: v) 0 = x := rfl
          rw [this]; by_cases q : x = 0 <;> simp [q] <;> omega)
        by_cases hx : x = 0
        · rw [if_neg (by simpa using hx)]
          exact run_seq (run_if tst (fun q => absurd q (by simp [hx])) (fun _ => run_next)) (run_ret ev_non)
        · rw [if_pos hx]
          exact run_seqR (run_if tst (fun _ => run_ret ev_int) (fun q => absurd q (by simp [hx])))

abbrev n_cleared : List Str := ["vector", "row", "column"]
theorem sc_cleared : FnScope n_cleared ["vector", "row", "column"] (defScope (top 11)) := ⟨rfl, rfl, rfl, by decide +kernel, rfl, by decide +kernel, by decide +kernel⟩
def F_cleared (ds : List PyData) (r : PyData) : Prop := ∃ (v row : List Int) (c a b : Nat), ds = [dV v, dV row, .int c] ∧ c < v.length ∧ row.length = v.length ∧ v.length ≤ 1000 ∧ Bd a v ∧ Bd b row ∧ a + b ≤ 8900 ∧ r = dV (FM.clr v row c)
theorem col_bd {k : Nat} {v : List Int} {c : Nat} (h : Bd k v) (hc : c < v.length) : (FM.col v c).natAbs < 2 ^ k := by
  rw [FM.col_get hc]; exact h _ (List.getElem_mem hc)
theorem comb_bd {a b j k : Nat} {x y : Int} {u v : List Int} (hx : x.natAbs < 2 ^ j) (hy : y.natAbs < 2 ^ k) (hu : Bd a u) (hv : Bd b v) (e1 : j + a ≤ n) (e2 : k + b ≤ n) : Bd (n + 1) (FM.comb x u y v) := fun z hz => by
  rw [comb_zip] at hz
  obtain ⟨p, hp, rfl⟩ := List.mem_map.mp hz
  have h1 := List.of_mem_zip hp
  have m1 := Nat.lt_of_lt_of_le (wide_lt hx (hu _ h1.1)) (Nat.pow_le_pow_right (by decide) e1)
  have m2 := Nat.lt_of_lt_of_le (wide_lt hy (hv _ h1.2)) (Nat.pow_le_pow_right (by decide) e2)
  rw [Nat.pow_succ]
  show (x * p.1 + y * p.2).natAbs < _
  omega
theorem D_cleared (h : Has K mg "cleared" (top 11)) (d1 : Dn P w K mg base 2 "primitive" ["vector"] (SpD K T 1 F_primitive)) (d2 : Dn P w K mg base 1 "combined" ["first", "vector", "second", "other"] (SpD K T 4 F_combined)) : Dn P w K mg base 3 "cleared" ["vector", "row", "column"] (SpD K T 3 F_cleared) := by
  have nd := sc_cleared.nd
  obtain ⟨_, _, G_primitive, m_primitive, k_primitive, b_primitive⟩ := d1
  obtain ⟨_, _, G_combined, m_combined, k_combined, b_combined⟩ := d2
  refine mkD (m := 0) h sc_cleared rfl rfl (fun _ _ _ _ _ _ us hl => match us, hl with | [_, _, _], _ => rfl) fun f cdv A outer s H E hr => ⟨_, pss_cons (ps_if (pt_cmpR op_eq (pe_ix ix_list (pv 0) (pv 2) (fun _ _ => rfl)) (pe_int) (nomark _)) (pss_one (ps_ret (pv 0))) (pss_nil)) (pss_one (ps_ret (pe_call G_primitive (hr.mono (by decide)) (by rfl) m_primitive k_primitive b_primitive .nil pass0 (pa_cons (pe_call G_combined (hr.mono (by decide)) (by rfl) m_combined k_combined b_combined .nil pass0 (pa_cons (pe_ix ix_list (pv 1) (pv 2) (fun _ _ => rfl)) (pa_cons (pv 0) (pa_cons (pe_un un_neg (pe_ix ix_list (pv 0) (pv 2) (fun _ _ => rfl))) (pa_cons (pv 1) pa_nil))))) pa_nil)))), ?_⟩
  rintro ds r ⟨v, row, c, a, b, rfl, hc, hrow, hl, hv, hw, hab, rfl⟩ _
  refine .inl ?_
  have tst : EvT K T _ (args [dV v, dV row, .int c] 0) (decide (FM.col v c = 0)) := et_test (ev_op (ev_op (ev_var (i := 0) rfl) (ev_var (i := 2) rfl) (op_ixL (at_nat (get_dV hc)))) ev_int op_eqI)
  unfold FM.clr
  by_cases hz : FM.col v c = 0
  · rw [if_pos hz]
    exact run_seqR (run_if tst (fun _ => run_ret (ev_var rfl)) (fun q => absurd q (by simpa using hz)))
  · rw [if_neg hz]
    refine run_seq (run_if tst (fun q => absurd q (by simpa using hz)) (fun _ => run_next)) ?_
    have c1 := col_bd hv hc
    have c2 := col_bd hw (by rw [hrow]; exact hc)
    have big : ∀ {k : Nat} {x : Int}, x.natAbs < 2 ^ k → k ≤ 8900 → x.natAbs < 2 ^ 400000 := fun {k x} h e => Nat.lt_of_lt_of_le h (Nat.pow_le_pow_right (by decide) (by omega))
    refine run_ret (ev_call (ea_cons (ev_call (ea_cons (ev_op (ev_var rfl) (ev_var rfl) (op_ixL (at_nat (get_dV (v := row) (by rw [hrow]; exact hc))))) (ea_cons (ev_var rfl) (ea_cons (ev_neg (ev_op (ev_var rfl) (ev_var rfl) (op_ixL (at_nat (get_dV hc))))) (ea_cons (ev_var rfl) ea_nil))))
      ⟨_, _, v, row, rfl, hv.mono (by omega), hw.mono (by omega), big c2 (by omega), by rw [Int.natAbs_neg]; exact big c1 (by omega), hl, rfl⟩ rfl) ea_nil) ⟨_, rfl, ?_, ?_, rfl⟩ rfl)
    · exact (comb_bd (n := a + b) c2 (by rw [Int.natAbs_neg]; exact c1) hv hw (by omega) (by omega)).mono (by omega)
    · rw [FM.comb_length]; omega
end FD
end
section
set_option Elab.async false
set_option linter.all false
set_option maxRecDepth 100000
set_option maxHeartbeats 2000000
/-! sorted(xs, key=lambda x: ..) with a lambda of one parameter that calls defs of the hand layer. -/
namespace FK
open PySem PySem.Calls PySem.Spec PyProof.Rows L2 LamX NdefX PySem.W
section
variable {X : Cx} {pins : List (Addr × Obj)} {σ : L2.St} {H : Hp} {s : Shared} {T : List (Addr × Str)} {E : Value → Shared → Prop} {Q : Value → Shared → Prop}
theorem each_to_map {α β γ : Type} {R : α → γ → Prop} (f : β → γ) : ∀ {as : List α} {bs : List β}, EachIs (fun a b => R a (f b)) as bs → EachIs R as (bs.map f)
  | _, _, .nil => .nil
  | _, _, .cons h r => .cons h (each_to_map f r)
theorem each_vals : ∀ {out : List Value} {zs : List (V × Int)}, EachIs (fun (v : Value) (p : V × Int) => RelV p.1 v) out zs → Vals (zs.map (·.1)) out
  | _, _, .nil => .nil
  | _, _, .cons h r => .cons h (each_vals r)
theorem vals_each : ∀ {xs : List V} {vs : List Value} {kz : List Int}, Vals xs vs → kz.length = vs.length → EachIs (fun (v : Value) (p : V × Int) => RelV p.1 v) vs (xs.zip kz)
  | _, _, [], .nil, _ => .nil
  | _, _, _ :: _, .cons h r, e => .cons h (vals_each r (by simpa using e))
/-- what a turn of the sort promises -/
def Turns (X : Cx) (pins : List (Addr × Obj)) (σ : L2.St) (H : Hp) (T : List (Addr × Str)) (f : Addr) (of : Obj) (vs : List Value) (kz : List Int) : Prop :=
  ∀ (i : Nat) (v : Value) (k : Int), vs[i]? = some v → kz[i]? = some k → ∀ (H1 : Hp) (s1 : Shared), Inv X pins σ H1 s1 → ExtN H H1 → Tabs T H1 → s1.heap.get? f = some of → H1 f = none →
    wpAny (model X.prog X.w) X.A.in1.in1 (call (.ref f) [v]) (CE X.stack X.prog X.w H1 s1 (fun v' H2 => v' = V.int k ∧ ExtN H1 H2 ∧ Tabs T H2)) (fun _ _ => False) s1
theorem nofr (I : Inv X pins σ H s) {b : Addr} (f : FpOk X pins H b) : b ∉ frs X.stack := fun z => (List.mem_cons.mp (I.stkSub b z)).elim f.2.1 f.2.2.1
theorem sort_core {l f : Addr} {of : Obj} {vs : List Value} {xs : List V} {kz : List Int} (I : Inv X pins σ H s) (hl : s.heap.IsList l vs.toArray) (rv : Vals xs vs) (hT : Tabs T H) (hf : s.heap.get? f = some of) (hfn : H f = none) (hff : f ∉ frs X.stack)
    (hlen : kz.length = vs.length) (hz : vs.length ≤ 100000) (hu : X.A.units + 10 < cLine) (turn : Turns X pins σ H T f of vs kz)
    (h : ∀ (a : Addr) (H1 : Hp) (s' : Shared), H a = none → ExtN H H1 → H1 a = none → Inv X pins σ (upd H1 a (.lst (((xs.zip kz).mergeSort fun p q => decide (p.2 ≤ q.2)).map (·.1)))) s' → Tabs T H1 → Q (.ref a) s') :
    wpAny (model X.prog X.w) X.A (call (.builtin "sorted") [.ref l] [(Str.ofString "key", .ref f)]) Q E s := by
  have hZ : vs.length ≤ sizeLine := Nat.le_trans hz (by decide)
  have ha0 : H (s.heap.objs.size + 1) = none := I.hok.fresh (Nat.le_succ _)
  refine sorted_of_sort hl hZ (ksk_s1 _ _) (fun x => ksk_l1 _ _) fun E' => ?_
  rw [ksk_t1]
  generalize hae : s.heap.objs.size + 1 = a at ha0 ⊢
  obtain ⟨n0, ho⟩ : ∃ n0, (copyHeap s.heap vs).get? a = some (seqObj "list" vs.toArray n0) := ⟨_, by rw [← hae]; exact copyHeap_at s.heap vs⟩
  have hfl := Heap.lt_size hf
  obtain ⟨e1, ho1⟩ : ∃ e1, ((copyHeap s.heap vs).update a (Obj.mapSeq fun _ => (#[] : Array Value))).get? a = some (seqObj "list" #[] e1) := ⟨_, get?_update_seq ho fun _ => #[]⟩
  have ha : a < (copyHeap s.heap vs).objs.size := Heap.lt_size ho
  unfold ksk_tree
  refine wpAny_bind (listItems_at (s := { s with heap := copyHeap s.heap vs }) ho rfl ?_)
  refine wpAny_bind (listUpdate_at ho rfl ?_ (by rw [List.size_toArray]; exact hZ) (Nat.zero_le _))
  refine wpAny_bind (seqEpoch_at ho1 rfl ?_)
  refine wpAny_bind (wpAny_newTuple ?_ (by show vs.length ≤ _; exact hZ))
  refine wpAny_bind (wpAny_newList ?_ (Nat.zero_le _))
  refine wpAny_holding ?_
  have hkS : (((copyHeap s.heap vs).update a (Obj.mapSeq fun _ => (#[] : Array Value))).push (seqObj "tuple" vs.toArray 0)).objs.size = (copyHeap s.heap vs).objs.size + 1 := by rw [size_push', Heap.size_update]
  generalize hkSe : (((copyHeap s.heap vs).update a (Obj.mapSeq fun _ => (#[] : Array Value))).push (seqObj "tuple" vs.toArray 0)).objs.size = kS at hkS ⊢
  have hka : kS ≠ a := by omega
  have upto : s.heap.objs.size ≤ a := by omega
  have keep0 : ∀ b o, s.heap.get? b = some o → ((((copyHeap s.heap vs).update a (Obj.mapSeq fun _ => (#[] : Array Value))).push (seqObj "tuple" vs.toArray 0)).push (seqObj "list" #[] 0)).get? b = some o := fun b o e => by
    have hlt := Heap.lt_size e
    exact Heap.get?_push_of_some _ (Heap.get?_push_of_some _ (((Heap.SameBut.update _ a _).2 b (Nat.ne_of_lt (Nat.lt_of_lt_of_le hlt upto))).trans (copyHeap_old e)))
  have I0 : Inv X pins σ H { s with heap := (((copyHeap s.heap vs).update a (Obj.mapSeq fun _ => (#[] : Array Value))).push (seqObj "tuple" vs.toArray 0)).push (seqObj "list" #[] 0), toks := s.toks } := I.kept keep0
  have fa : FpOk X pins H a := I.fpOk upto (I.hok.fresh upto)
  have fk : FpOk X pins H kS := I.fpOk (by omega) (I.hok.fresh (by omega))
  show wpAny _ _ _ _ _ { s with heap := (((copyHeap s.heap vs).update a (Obj.mapSeq fun _ => (#[] : Array Value))).push (seqObj "tuple" vs.toArray 0)).push (seqObj "list" #[] 0) }
  unfold ksk_rest
  refine wpAny_bind (wpAny_rule ?_)
  first
    | rw [List.forIn_toArray]
    | (rw [← Array.forIn_toList]; simp only [List.toList_toArray])
    | rw [← Array.forIn_toList]
  refine wpAny_bind (ksk_fold (fun i s' => ∃ H1 kA e, Inv X pins σ H1 s' ∧ ExtN H H1 ∧ Tabs T H1 ∧ FpOk X pins H1 a ∧ FpOk X pins H1 kS ∧ s'.heap.get? f = some of ∧ H1 f = none ∧ s'.heap.get? kS = some (seqObj "list" kA e) ∧ s'.heap.get? a = some (seqObj "list" #[] e1) ∧
      EachIs (fun v k => ∃ t, v = Value.int k t) kA.toList (kz.take i)) vs 0 _
    ⟨H, #[], 0, I0, ExtN.refl H, hT, fa, fk, keep0 _ _ hf, hfn, by rw [← hkSe]; exact Heap.get?_push_size _ rfl, Heap.get?_push_of_some _ (Heap.get?_push_of_some _ ho1), by rw [List.take_zero]; exact EachIs.nil⟩ ?step ?done)
  case step =>
    rintro j x s' hx ⟨H1, kA, e, I1, e1', T1, fa1, fk1, hf1, hfn1, nk, na, hk⟩
    simp only [Nat.zero_add] at hk ⊢
    have hj : j < vs.length := (List.getElem?_eq_some_iff.mp hx).1
    obtain ⟨k, hkj⟩ : ∃ k, kz[j]? = some k := ⟨_, List.getElem?_eq_getElem (by omega)⟩
    have hzs : kA.size ≤ vs.length := by
      have h1 := hk.length
      rw [Array.length_toList, List.length_take] at h1
      omega
    refine wpAny_bind (wpAny_attempt (wpAny_mono (turn j x k hx hkj H1 s' I1 e1' T1 hf1 hfn1) (fun v s'' he => ?_) fun _ _ hF => hF.elim))
    obtain ⟨v', H2, os, bare, un, hok, r, rfl, eN, T2⟩ := he
    obtain ⟨t, rfl⟩ : ∃ t, v = Value.int k t := r
    obtain ⟨hh, g, d, t', os'⟩ := s''
    obtain rfl : os' = s'.os := os
    have I2 : Inv X pins σ H2 { s' with heap := hh, gens := g, drawn := d, toks := t' } := I1.call (ch := []) un hok bare (fun b z => absurd z (by simp))
    try dsimp only
    have nk2 : hh.get? kS = some (seqObj "list" kA e) := un.keep _ _ nk fk1.1 (nofr I1 fk1) (by simp)
    have na2 : hh.get? a = some (seqObj "list" #[] e1) := un.keep _ _ na fa1.1 (nofr I1 fa1) (by simp)
    have hf2 : hh.get? f = some of := un.keep _ _ hf1 hfn1 hff (by simp)
    have fk2 : FpOk X pins H2 kS := ⟨un.free _ _ nk fk1.1 (by simp), fk1.2⟩
    have fa2 : FpOk X pins H2 a := ⟨un.free _ _ na fa1.1 (by simp), fa1.2⟩
    have hfn2 : H2 f = none := un.free _ _ hf1 hfn1 (by simp)
    have s1 := Heap.SameBut.update hh kS (Obj.mapSeq (·.push (.int k t)))
    obtain ⟨c2, hc2⟩ : ∃ c2, (hh.update kS (Obj.mapSeq (·.push (.int k t)))).get? kS = some (seqObj "list" (kA.push (.int k t)) c2) := ⟨_, get?_update_seq nk2 (·.push (.int k t))⟩
    have ek : kz.take (j + 1) = kz.take j ++ [k] := by rw [List.take_add_one, hkj]; simp
    have ea : (kA.push (Value.int k t)).toList = kA.toList ++ [Value.int k t] := by simp
    refine wpAny_bind (listUpdate_at nk2 rfl ?_ (Nat.le_trans hzs hZ) (Nat.le_trans (Nat.le_of_eq (Array.size_push ..)) (Nat.succ_le_succ (Nat.le_trans hzs hZ))))
    have kne : f ≠ kS := Nat.ne_of_lt (Nat.lt_of_lt_of_le hfl (by omega))
    refine wpAny_pure ⟨rfl, H2, kA.push (.int k t), c2, I2.turnedL (ch := [kS]) (fun b o hb e => (s1.2 b (by simpa using hb)).trans e) (fun b hb => by
      obtain rfl : b = kS := by simpa using hb
      exact fk2), e1'.trans eN, T2, fa2, fk2, (s1.2 f kne).trans hf2, hfn2, hc2, (s1.2 a hka.symm).trans na2, ?_⟩
    rw [ea, ek]
    exact each_snoc ⟨t, rfl⟩ hk
  case done =>
    rintro s' ⟨H1, kA, e, I1, e1', T1, fa1, fk1, hf1, hfn1, nk, na, hk⟩
    have e3 : kz.take (0 + vs.length) = kz := List.take_of_length_le (by omega)
    rw [e3] at hk
    have al : AllAlike (kz.map PyData.int) := fun d hd d' hd' => by
      obtain ⟨x, _, rfl⟩ := List.mem_map.mp hd
      obtain ⟨y, _, rfl⟩ := List.mem_map.mp hd'
      rfl
    have hk' : EachIs (fun v k => ∃ as, Reads s'.heap v k as) kA.toList (kz.map PyData.int) := by
      refine each_to_map _ (hk.mono fun v k q => ?_)
      obtain ⟨t, rfl⟩ := q
      exact ⟨[], .int k t⟩
    have hsz : kA.size = vs.length := by
      have h1 := hk.length
      rw [Array.length_toList] at h1
      omega
    try dsimp only
    refine wpAny_bind (listItems_at nk rfl ?_)
    have S : SortsAt X.prog X.w X.A.in1.in1 s' (dataKind s'.heap (kz.map PyData.int)) kA.toList := SortsAt.data hk' al (.inr fun d hd => by
      obtain ⟨x, _, rfl⟩ := List.mem_map.mp hd
      exact ⟨by simp, fun xs => by simp⟩) fun d hd => by
      obtain ⟨x, _, rfl⟩ := List.mem_map.mp hd
      show X.A.units + 1 + 1 + _ < cLine
      have : (PyData.int x).depth ≤ 1 := by first | decide | simp [PyData.depth]
      omega
    refine keyH_end (h₁ := hideAll s'.heap [kS]) (fun b o _ e => of_hideAll _ e) (hideAll_none _ (by simp)) nk na hka S hsz hZ fun h' tk c kp hD => ⟨rfl, ?_⟩
    have ko : KeyedOut false (kz.map PyData.int) vs (sortVals (dataKind s'.heap (kz.map PyData.int)) false kA.toList vs) := ⟨s'.heap, kA.toList, al, rfl, hk'⟩
    have rz : EachIs (fun (v : Value) (p : V × Int) => RelV p.1 v) vs (xs.zip kz) := vals_each rv hlen
    have ez : (kz.map PyData.int) = (xs.zip kz).map fun p => PyData.int p.2 := by
      rw [← List.map_snd_zip (l₁ := xs) (l₂ := kz) (by rw [rv.length]; omega), List.map_map]
      rw [List.map_snd_zip (by rw [rv.length]; omega)]
      rfl
    have out := keyedOut_each (bs := xs.zip kz) (fun p => PyData.int p.2) (by rw [← ez]; exact ko) rz
    rw [dataLe_int] at out
    have I2 : Inv X pins σ H1 { s' with heap := h', toks := tk } := I1.turnedL (ch := [kS, a]) (fun b o hb e => kp b o (fun z => hb (by simp [z])) (hideAll_get _ e (fun z => hb (by simp at z; simp [z])))) (fun b hb => by
      rcases List.mem_cons.mp hb with rfl | hb
      · exact fk1
      · obtain rfl : b = a := by simpa using hb
        exact fa1)
    refine h a H1 _ ha0 e1' fa1.1 (I2.take (h' := h') (t' := tk) (fun b o _ e => e) fa1 ⟨?_, sortVals (dataKind s'.heap (kz.map PyData.int)) false kA.toList vs, c, ?_, by simpa using hD⟩) T1
    · rw [List.length_map, List.length_mergeSort, List.length_zip]
      omega
    · exact each_vals out
/-! ### the lambda -/
abbrev lamNF (X : Cx) (params : Arguments) (scope : Scope) (c' : Addr) : NF := { name := "<lambda>", qual := X.env.qual ++ "<lambda>", params := params, body := [], scope := scope, cl := cloFrom X.env.cells scope.names [], c := c' }
theorem lam_call {x : Str} {NL fr : List Str} {js : List Nat} {params : Arguments} {body : Expr} {scope : Scope} {pm ctv u : Value} {v : V} {f c' : Addr} {k : Nat} {tb : TE} {Qv : VK} (S : NScope NL [x] fr scope)
    (hb : ∀ (q : Str) (cl : List (Str × Addr)) (pm cv ctv u : Value), bindArgs (kla_fn "<lambda>" q params body scope cl pm cv ctv) ⟨[u], []⟩ = pure [(x, u)]) (hr : Room (k + 3) X.A) (I : Inv X pins σ H s) (cp : Caps X (cloFrom X.env.cells scope.names []) fr js)
    (hf : s.heap.get? f = some (kla_obj "<lambda>" (X.env.qual ++ "<lambda>") params body scope (cloFrom X.env.cells scope.names []) pm c' ctv)) (hc : H c' = some (CodeO c' (X.env.qual ++ "<lambda>"))) (r : RelV v u)
    (hbody : ∀ (A : Around) (outer : List Env) (s : Shared) (H : Hp), Room k (A.deeper (envF (lamNF X params scope c') f s.heap.objs.size)) → PE (ncx C8.CX0 X.prog X.w X.K X.mg X.base NL (lamNF X params scope c') f A outer s H C8.E0) body tb)
    (ht : tb (startF NL [v] (js.map (slotAt σ))) H Qv) :
    wpAny (model X.prog X.w) X.A.in1.in1 (call (.ref f) [u]) (CE X.stack X.prog X.w H s Qv) (fun _ _ => False) s := by
  have rc : codeAny (model X.prog X.w) X.A.in1.in1 (.call (.ref f) ⟨[u], []⟩) (CR C8.CX0 X.stack X.prog X.w H s Qv C8.E0) s := by
    refine kla_callFunE hr.in1.in1.depth hf rfl S.co S.gen rfl (codeO_at I.hok hc) ?_
    rw [hb]
    refine wpAny_pure (wpAny_newFunctionEnv S.nocell (fun y hy => ?_) (fun h₁ hns hsb => ⟨I.nolimit.fresh _ hsb, ?_⟩) S.kind)
    · obtain rfl : y = (x, u) := by simpa using hy
      exact S.par x (by simp)
    have kp : ∀ b o, s.heap.get? b = some o → h₁.get? b = some o := fun b o e => hsb.extBut b o (Nat.ne_of_lt (Heap.lt_size e)) (Heap.get?_push_of_some _ e)
    have J : Inv (ncx C8.CX0 X.prog X.w X.K X.mg X.base NL (lamNF X params scope c') f X.A.in1.in1 X.stack s H C8.E0) [] (startF NL [v] (js.map (slotAt σ))) H { s with heap := h₁, toks := s.toks + ([(x, u)] : List (Str × Value)).length } :=
      inv_startN (ps := [x]) (us := [u]) S hr.hd I.env0.in1.in1 rfl (.cons r .nil) (cells_of I cp) hns kp
    refine kla_codeExpr (wpAny_mono ((hbody _ _ s H (hr.in1.in1.deeper _)).run [] _ _ H Qv J ht) (fun v s' hq => ?_) fun e s' hq => hq)
    obtain ⟨w', H', J', rv, q⟩ := hq
    exact ⟨w', H', J'.os, J'.bare, J'.base, J'.hok, rv, q⟩
  refine wpAny_call (codeAny_mono rc fun r s' hq => ?_)
  cases r with
  | error e => exact (show False from hq).elim
  | ok fl =>
    cases fl with
    | ret u => exact hq
    | next => exact False.elim hq
    | brk => exact False.elim hq
    | cont => exact False.elim hq
/-- sorted(te, key=lambda x: tb) -/
def tSortK (T : List (Addr × Str)) (NL : List Str) (js : List Nat) (te tb : TE) : TE := fun σ H Q => te σ H fun v H1 => ∃ (l : Addr) (xs : List V) (kz : List Int), v = .ref l ∧ H1 l = some (.lst xs) ∧ xs.length ≤ 100000 ∧ kz.length = xs.length ∧ Tabs T H1 ∧
  (∀ (i : Nat) (x : V) (k : Int), xs[i]? = some x → kz[i]? = some k → ∀ H2, ExtN H1 H2 → Tabs T H2 → tb (startF NL [x] (js.map (slotAt σ))) H2 fun v' H3 => v' = .int k ∧ ExtN H2 H3 ∧ Tabs T H3) ∧
  ∀ (a : Addr) (H2 : Hp), (∀ o, H1 a = some o → ∃ ps, o = .tbl ps) → ExtN H1 H2 → H2 a = none → Tabs T H2 → Q (.ref a) (upd H2 a (.lst (((xs.zip kz).mergeSort fun p q => decide (p.2 ≤ q.2)).map (·.1))))
theorem pe_sortK {x : Str} {NL fr : List Str} {js : List Nat} {params : Arguments} {body e0 : Expr} {scope : Scope} {c P : Addr} {k : Nat} {te tb : TE} {p kpos lpos pos : Pos} (hg : Gl X "sorted") (hm : X.mg "sorted" = none) (he0 : PE X e0 te)
    (TB : TabB X.base X.mg c P) (hcode : X.env.code = .ref c) (hmT : (P, X.env.qual ++ "<lambda>") ∈ T) (hu : ∀ p ∈ T, p.1 = P → p.2 = X.env.qual ++ "<lambda>") (hr : Room (k + 3) X.A)
    (S : NScope NL [x] fr scope) (hcap : ndefB X.env.scope scope fr = true) (hjs : js.map (fun j => X.N[j]?) = fr.map some) (hdef : defaultsOf params X.env = ([], []))
    (hb : ∀ (q : Str) (cl : List (Str × Addr)) (pm cv ctv u : Value), bindArgs (kla_fn "<lambda>" q params body scope cl pm cv ctv) ⟨[u], []⟩ = pure [(x, u)])
    (hbody : ∀ (c' f : Addr) (A : Around) (outer : List Env) (s : Shared) (H : Hp), Room k (A.deeper (envF (lamNF X params scope c') f s.heap.objs.size)) → PE (ncx C8.CX0 X.prog X.w X.K X.mg X.base NL (lamNF X params scope c') f A outer s H C8.E0) body tb)
    (he : backTo pos (starEach [e0] X.env) = (false, eval e0 X.env) :: backTo pos (starEach [] X.env) := by rfl) (hpl : (backTo pos (starEach [e0] X.env)).any (·.1) = false := by rfl) :
    PE X (.Call (.Name "sorted" p) [e0] [⟨some "key", .Lambda params body scope lpos, kpos⟩] pos) (tSortK T NL js te tb) := by
  refine ⟨fun pins s σ H Q I h => ?_⟩
  refine wpAny_Call_Name_kw (ld_blt I hg hm (by rfl) ?_)
  refine callWith_kw ?_ he hpl (by rfl) (by rfl)
  rw [he]
  refine Calls.spliced_cons (wpAny_mono (he0.run pins s σ H _ I h) (fun u s1 hq => ?_) fun _ _ e => e)
  obtain ⟨v, H1, I1, rv, l, xs, kz, rfl, hl, hz, hlen, hT, turn, fin⟩ := hq
  obtain rfl : u = Value.ref l := rv
  refine Calls.spliced_nil ?_
  obtain ⟨its, rvs, pl, _⟩ := I1.list (SqL.of hl)
  refine kwAll_cons ?_
  have hfree : ∀ y ∈ scope.names, y.2 = .free → ∃ c, X.env.cells.lookup y.1 = some c := fun y hy e => (ndef_free hcap y hy e).elim (fun z => I1.ok.has _ (.inl z)) fun z => I1.ok.has _ (.inr z)
  refine lam_make2 I1 TB hcode hmT hu hT hdef hfree fun f c' pm ctv H2 s2 I2 e2 T2 hf hfn hfr hco => ?_
  refine kwAll_nil ?_
  obtain ⟨its2, rvs2, pl2, _⟩ := I2.list (SqL.of (e2 _ _ hl fun ps z => by cases z))
  have cp : Caps X (cloFrom X.env.cells scope.names []) fr js := Caps.made I1.ok (ndef_free hcap) (ndef_fr hcap) hjs
  show wpAny _ _ (call (.builtin "sorted") [.ref l] [(Str.ofString "key", .ref f)]) _ _ s2
  have hlv := rvs2.length
  refine sort_core (kz := kz) I2 pl2.isList rvs2 T2 hf hfn hfr (by omega) (by omega) (by have := hr.un; omega) (fun i v k hv hk H3 s3 I3 e3 T3 hf3 hfn3 => ?_) fun a H3 s' ha e3 hn I3 T3 => ⟨.ref a, _, I3, rfl, fin a H3 ?_ (e2.trans e3) hn T3⟩
  · obtain ⟨y, hy, ry⟩ : ∃ y, xs[i]? = some y ∧ RelV y v := by
      cases q : xs[i]? with
      | none => rw [rvs2.none_of q] at hv; cases hv
      | some y =>
        obtain ⟨u, hu, r⟩ := rvs2.get q
        rw [hu] at hv; cases hv
        exact ⟨y, rfl, r⟩
    exact lam_call S hb hr I3 cp hf3 (e3 _ _ hco codeO_ne) ry (fun A outer s H e => hbody c' f A outer s H e) (turn i y k hy hk H3 (e2.trans e3) T3)
  · refine fun o q => Classical.byContradiction fun ht => ?_
    rw [e2 a o q fun ps z => ht ⟨ps, z⟩] at ha; cases ha
end
/-! ### over environments -/
open FW
variable {K : PySem.W.Frag} {T : List (Addr × Str)} {env : En}
theorem dall_maps {Av : Avs} {H : Hp} : ∀ {zs : List (V × PyData)}, (∀ z ∈ zs, DA K Av H z.1 z.2) → DAll K Av H (zs.map (·.1)) (zs.map (·.2))
  | [], _ => .nil
  | z :: zs, h => .cons (h z (by simp)) (dall_maps fun x hx => h x (by simp [hx]))
theorem dall_zip {Av : Avs} {H : Hp} : ∀ {vs : List V} {xs : List PyData}, DAll K Av H vs xs → ∀ z ∈ vs.zip xs, DA K Av H z.1 z.2
  | _, _, .nil, z, hz => nomatch hz
  | _, _, .cons a b, z, hz => by
    rcases List.mem_cons.mp hz with rfl | hz
    · exact a
    · exact dall_zip b z hz
theorem zip_snd {α β : Type} : ∀ {vs : List α} {xs : List β}, vs.length = xs.length → (vs.zip xs).map (·.2) = xs
  | [], [], _ => rfl
  | v :: vs, x :: xs, h => by simpa using zip_snd (vs := vs) (xs := xs) (by simpa using h)
/-- sorted(te, key=lambda x: tb), one name captured -/
theorem en_sortK {te tb : TE} {NL : List Str} {j : Nat} {xs : List PyData} {cap : PyData} (g : PyData → Int) (h : EvE K T te env (.list xs)) (hj : env[j]? = some (.d cap)) (hN : NL.length = 2) (hb : ∀ x ∈ xs, EvE K T tb [.d x, .d cap] (.int (g x))) (hz : xs.length ≤ 100000) :
    EvN K T (tSortK T NL [j] te tb) env (xs.mergeSort fun p q => decide (g p ≤ g q)) := fun Mu Av0 H0 Av σ H S Q q =>
  h _ _ _ _ _ _ S _ fun v H1 e1 t1 d1 => by
    cases d1 with
    | @lst l vs _ h1 n r =>
      have S1 := S.grow e1 t1
      have lv := r.length
      obtain ⟨u, hu, du⟩ := S1.dat j cap hj
      have sl : slotAt σ j = some u := slotAt_of hu
      refine ⟨l, vs, xs.map g, rfl, h1, by rw [lv]; exact hz, by rw [List.length_map, lv], t1, fun i y k hy hk H2 e2 t2 => ?_, fun a H2 ha e2 hn t2 => ?_⟩
      · obtain ⟨x, hx, dx⟩ := r.getV hy
        rw [List.getElem?_map, hx] at hk
        obtain rfl : g x = k := by simpa using hk
        have av2 : ∀ a, Av a → ∃ o, H2 a = some o ∧ ∀ ps, o ≠ .tbl ps := (S1.grow e2 t2).av
        have S2 : Sta K T (fun _ => False) Av H2 Av [.d x, .d cap] (startF NL [y] [some u]) H2 := by
          have e : startF NL [y] [some u] = [some y, some u] := by unfold startF; simp [hN]
          rw [e]
          refine ⟨fun b o h _ _ => h, fun _ h => h.elim, t2, fun _ h => h, av2, rfl, fun i z hi => ?_, fun i z hi => ?_, fun i j z w l hi => ?_, fun i C fd w hi => ?_⟩
          · match i, hi with
            | 0, hi => cases hi; exact ⟨y, rfl, dx.ext e2⟩
            | 1, hi => cases hi; exact ⟨u, rfl, du.ext e2⟩
          · match i, hi with
            | 0, hi => cases hi
            | 1, hi => cases hi
          · match i, hi with
            | 0, hi => cases hi
            | 1, hi => cases hi
          · match i, hi with
            | 0, hi => cases hi
            | 1, hi => cases hi
        rw [show [j].map (slotAt σ) = [some u] by simp [sl]]
        refine hb x (List.mem_of_getElem? hx) _ _ _ _ _ _ S2 _ fun v' H3 e3 t3 d3 => ?_
        cases d3
        exact ⟨rfl, e3, t3⟩
      · have fr : Fresh H1 a := ha
        have na : ¬ Av a := fun z => by
          obtain ⟨o, z1, z2⟩ := (S1.grow e2 t2).av a z
          rw [hn] at z1; cases z1
        have m1 : ((vs.zip (xs.map g)).mergeSort fun p q => decide (p.2 ≤ q.2)) = ((vs.zip xs).mergeSort fun p q => decide (g p.2 ≤ g q.2)).map fun p => (p.1, g p.2) := by
          rw [List.map_mergeSort (s := fun p q : V × Int => decide (p.2 ≤ q.2)) (fun a _ b _ => rfl), List.zip_map_right]; rfl
        have m2 : (((vs.zip xs).mergeSort fun p q => decide (g p.2 ≤ g q.2)).map fun p => p.2) = xs.mergeSort fun p q => decide (g p ≤ g q) := by
          rw [List.map_mergeSort (s := fun p q : PyData => decide (g p ≤ g q)) (fun a _ b _ => rfl), zip_snd lv]
        refine q a _ _ (fr.back e1) na ((e1.trans e2).trans (new_of hn)) (tabs_new t2 hn) upd_same ?_
        rw [m1, List.map_map, ← m2]
        refine dall_maps (zs := (vs.zip xs).mergeSort fun p q => decide (g p.2 ≤ g q.2)) fun z hz => ?_
        exact ((((dall_zip r z (List.mem_mergeSort.mp hz)).ext e2).more (Fresh.of hn) fun _ z => z)).ext (new_of hn)
end FK
end
section
set_option Elab.async false
set_option linter.all false
set_option maxRecDepth 100000
set_option maxHeartbeats 4000000
/-! echelon, reduced -/
namespace FD
open PySem PySem.Spec PyProof.Rows L2 LamX FW FT FK NdefX
variable {P : Program} {w : World} {K : PySem.W.Frag} {mg : Str → Option Value} {base : Heap} {T : List (Addr × Str)}
/-! ### bits -/
theorem bd_bnd {k : Nat} {v : List Int} : Bd k v ↔ FM.Bnd (2 ^ k - 1) v := by
  have p : 0 < 2 ^ k := Nat.two_pow_pos k
  exact ⟨fun h x hx => by have := h x hx; omega, fun h x hx => by have := h x hx; omega⟩
theorem bd_primitive {k : Nat} {v : List Int} (h : Bd k v) : Bd k (FM.primitive v) := bd_bnd.mpr (bd_bnd.mp h).primitive
theorem bd_neg {k : Nat} {v : List Int} (h : Bd k v) : Bd k (FM.neg v) := bd_bnd.mpr (bd_bnd.mp h).neg
theorem clr_len {v row : List Int} {c : Nat} (h : row.length = v.length) : (FM.clr v row c).length = v.length := by
  unfold FM.clr
  split
  · rfl
  · rw [FM.primitive_length, FM.comb_length]; omega
theorem clr_bd {v row : List Int} {c a b : Nat} (h : row.length = v.length) (hc : c < v.length) (ha : Bd a v) (hb : Bd b row) : Bd (a + b + 1) (FM.clr v row c) := by
  unfold FM.clr
  split
  · exact ha.mono (by omega)
  · exact bd_primitive (comb_bd (n := a + b) (col_bd hb (by omega)) (by rw [Int.natAbs_neg]; exact col_bd ha hc) ha hb (by omega) (by omega))
theorem clears_len {n : Nat} : ∀ {F : List (List Int)} {v : List Int}, v.length = n → FM.Lens n F → (FM.clears v F).length = n
  | [], v, h, _ => h
  | k :: F, v, h, hF => clears_len (F := F) (v := FM.clr v k (FM.pv k)) (by rw [clr_len (by rw [hF k (by simp), h]), h]) fun x hx => hF x (by simp [hx])
theorem clears_bd {n b : Nat} : ∀ {F : List (List Int)} {v : List Int} {a : Nat}, v.length = n → FM.Lens n F → (∀ k ∈ F, FM.pv k < n) → (∀ k ∈ F, Bd b k) → Bd a v → Bd (a + F.length * (b + 1)) (FM.clears v F)
  | [], v, a, h, _, _, _, ha => by simpa [FM.clears] using ha
  | k :: F, v, a, h, hF, hp, hb, ha => by
    have := clears_bd (F := F) (v := FM.clr v k (FM.pv k)) (a := a + b + 1) (by rw [clr_len (by rw [hF k (by simp), h]), h]) (fun x hx => hF x (by simp [hx])) (fun x hx => hp x (by simp [hx])) (fun x hx => hb x (by simp [hx])) (clr_bd (by rw [hF k (by simp), h]) (by rw [h]; exact hp k (by simp)) ha (hb k (by simp)))
    refine this.mono ?_
    rw [List.length_cons, Nat.succ_mul]
    omega
theorem signed_bd {k c : Nat} {v : List Int} (h : Bd k v) : Bd k (FM.signed v c) := by
  unfold FM.signed
  split
  · exact bd_neg h
  · exact h
theorem signed_len {c : Nat} {v : List Int} : (FM.signed v c).length = v.length := by
  unfold FM.signed
  split
  · exact FM.neg_length v
  · rfl
theorem take_clears {F : List (List Int)} {v k : List Int} {i : Nat} (h : F[i]? = some k) : FM.clears v (F.take (i + 1)) = FM.clr (FM.clears v (F.take i)) k (FM.pv k) := by
  unfold FM.clears
  rw [List.take_add_one, h, List.foldl_append]; rfl
def unI : PyData → Int
  | .int i => i
  | _ => 0
def unV : PyData → List Int
  | .list ds => ds.map unI
  | _ => []
@[simp] theorem unV_dV (v : List Int) : unV (dV v) = v := by
  unfold unV dV
  simp only [List.map_map]
  conv => rhs; rw [← List.map_id v]
  exact List.map_congr_left fun _ _ => rfl
theorem get_dVs {F : List (List Int)} {i : Nat} {x : PyData} (h : (F.map dV)[i]? = some x) : ∃ k, F[i]? = some k ∧ x = dV k := by
  rw [List.getElem?_map, Option.map_eq_some_iff] at h
  obtain ⟨k, hk, rfl⟩ := h
  exact ⟨k, hk, rfl⟩
abbrev n_reduced : List Str := ["vector", "rows", "rest", "row"]
theorem sc_reduced : FnScope n_reduced ["vector", "rows"] (defScope (top 13)) := ⟨rfl, rfl, rfl, by decide +kernel, rfl, by decide +kernel, by decide +kernel⟩
def F_reduced (ds : List PyData) (r : PyData) : Prop := ∃ (n a b : Nat) (v : List Int) (rows : List (List Int)), ds = [dV v, dVs rows] ∧ n ≤ 1000 ∧ v.length = n ∧ FM.Ech n rows ∧ Bd a v ∧ (∀ k ∈ rows, Bd b k) ∧ a + rows.length * (b + 1) + b ≤ 8900 ∧ rows.length ≤ 1000 ∧ r = dV (FM.reduced v rows)
theorem D_reduced (h : Has K mg "reduced" (top 13)) (d1 : Dn P w K mg base 2 "primitive" ["vector"] (SpD K T 1 F_primitive)) (d2 : Dn P w K mg base 3 "cleared" ["vector", "row", "column"] (SpD K T 3 F_cleared)) (d3 : Dn P w K mg base 1 "pivot_of" ["vector"] (SpD K T 1 F_pivot_of)) : Dn P w K mg base 4 "reduced" ["vector", "rows"] (SpD K T 2 F_reduced) := by
  have nd := sc_reduced.nd
  obtain ⟨_, _, G_primitive, m_primitive, k_primitive, b_primitive⟩ := d1
  obtain ⟨_, _, G_cleared, m_cleared, k_cleared, b_cleared⟩ := d2
  obtain ⟨_, _, G_pivot_of, m_pivot_of, k_pivot_of, b_pivot_of⟩ := d3
  refine mkD (m := 2) h sc_reduced rfl rfl (fun _ _ _ _ _ _ us hl => match us, hl with | [_, _], _ => rfl) fun f cdv A outer s H E hr => ⟨_, pss_cons (ps_set (i := 2) nd rfl (Or.inl rfl) (pe_call G_primitive (hr.mono (by decide)) (by rfl) m_primitive k_primitive b_primitive .nil pass0 (pa_cons (pv 0) pa_nil))) (pss_cons (ps_for PassesOwn.never rfl (pi_list (pv 1)) (pg_name (i := 3) nd rfl (Or.inl rfl)) (pss_one (ps_set (i := 2) nd rfl (Or.inl rfl) (pe_call G_cleared (hr.mono (by decide)) (by rfl) m_cleared k_cleared b_cleared .nil pass0 (pa_cons (pv 2) (pa_cons (pv 3) (pa_cons (pe_call G_pivot_of (hr.mono (by decide)) (by rfl) m_pivot_of k_pivot_of b_pivot_of .nil pass0 (pa_cons (pv 3) pa_nil)) pa_nil))))))) (pss_one (ps_ret (pv 2)))), ?_⟩
  rintro ds r ⟨n, a, b, v, rows, rfl, hn, hv, E1, ha, hb, hab, hl, rfl⟩ _
  refine .inl ?_
  have lensF : FM.Lens n rows := fun k hk => E1.len k hk
  refine run_seq (run_set (ev_call (ea_cons (ev_var rfl) ea_nil) ⟨v, rfl, ha.mono (by omega), by omega, rfl⟩ rfl) (by simp [args])) ?_
  refine run_seq (run_forN (ei_list (ev_var rfl)) (fun i => [.d (dV v), .d (dVs rows), .d (dV (FM.clears (FM.primitive v) (rows.take i))), .un]) rfl (fun i => by simp) ?_) ?_
  · intro i x hx
    obtain ⟨k, hk, rfl⟩ := get_dVs hx
    have km := List.mem_of_getElem? hk
    have hi := (List.getElem?_eq_some_iff.mp hk).1
    have lt : FM.Lens n (rows.take i) := fun x hx => lensF x (List.mem_of_mem_take hx)
    have lc : (FM.clears (FM.primitive v) (rows.take i)).length = n := clears_len (by rw [FM.primitive_length, hv]) lt
    have bc : Bd (a + (rows.take i).length * (b + 1)) (FM.clears (FM.primitive v) (rows.take i)) := clears_bd (n := n) (by rw [FM.primitive_length, hv]) lt (fun x hx => E1.lt (List.mem_of_mem_take hx)) (fun x hx => hb x (List.mem_of_mem_take hx)) (bd_primitive ha)
    have le : (rows.take i).length * (b + 1) ≤ rows.length * (b + 1) := Nat.mul_le_mul_right _ (by rw [List.length_take]; omega)
    refine ⟨_, .inl (run_set (ev_call (ea_cons (ev_var rfl) (ea_cons (ev_var rfl) (ea_cons (ev_call (ea_cons (ev_var rfl) ea_nil) ⟨k, rfl, by rw [lensF k km]; omega, rfl⟩ rfl) ea_nil)))
      ⟨_, k, FM.pv k, _, b, by rw [E1.piv k km]; rfl, by rw [lc]; exact E1.lt km, by rw [lc]; exact lensF k km, by omega, bc, hb k km, by omega, rfl⟩ rfl) (by simp)), ?_⟩
    rw [take_clears hk]
    rfl
  · refine run_ret (ev_eq (ev_var rfl) ?_)
    rw [List.length_map, List.take_length]
    rfl

abbrev n_echelon : List Str := ["rows", "found", "row", "rest", "known", "column", "size", "item"]
theorem sc_echelon : FnScope n_echelon ["rows"] (defScope (top 12)) := ⟨rfl, rfl, rfl, by decide +kernel, rfl, by decide +kernel, by decide +kernel⟩
/-- the bits of what is found behind t rows -/
def eA (b : Nat) : Nat → Nat
  | 0 => 0
  | t + 1 => eA b t + (b + t * (eA b t + 1)) + 1
def F_echelon (ds : List PyData) (r : PyData) : Prop := ∃ (n b : Nat) (rows : List (List Int)), ds = [dVs rows] ∧ 0 < n ∧ n ≤ 1000 ∧ FM.Lens n rows ∧ (∀ k ∈ rows, Bd b k) ∧ rows.length ≤ 1000 ∧ b ≤ 8000 ∧ (∀ t, t < rows.length → 0 < t → eA b t + (b + t * (eA b t + 1)) ≤ 8800) ∧ r = dVs (FM.echelon n rows)
theorem found_len (rows : List (List Int)) (t : Nat) : ((rows.take t).foldl FM.echStep []).length ≤ t := by
  have := FM.echRaw_len (rows.take t) []
  rw [List.length_take] at this
  simp at this
  omega
theorem found_bd {n b : Nat} {rows : List (List Int)} (hl : FM.Lens n rows) (hb : ∀ k ∈ rows, Bd b k) : ∀ t, t ≤ rows.length → ∀ k ∈ (rows.take t).foldl FM.echStep [], Bd (eA b t) k := by
  intro t
  induction t with
  | zero => intro _ k hk; simp at hk
  | succ t ih =>
    intro ht k hk
    have ih := ih (by omega)
    have hr : rows[t]? = some rows[t] := List.getElem?_eq_getElem (by omega)
    have rm := List.mem_of_getElem? hr
    rw [List.take_add_one, hr, List.foldl_append] at hk
    have E1 := (FM.echRaw_spec (n := n) (rows := rows.take t) fun x hx => hl x (List.mem_of_mem_take hx)).1
    have fl := found_len rows t
    have hrest : Bd (b + t * (eA b t + 1)) (FM.clears rows[t] ((rows.take t).foldl FM.echStep [])) :=
      (clears_bd (n := n) (hl _ rm) (fun x hx => E1.len x hx) (fun x hx => E1.lt hx) ih (hb _ rm)).mono (Nat.add_le_add_left (Nat.mul_le_mul_right _ fl) _)
    have lrest : (FM.clears rows[t] ((rows.take t).foldl FM.echStep [])).length = n := clears_len (hl _ rm) fun x hx => E1.len x hx
    simp only [Option.toList_some, List.foldl_cons, List.foldl_nil] at hk
    replace E1 : FM.Ech n ((rows.take t).foldl FM.echStep []) := E1
    generalize (rows.take t).foldl FM.echStep [] = F at hk hrest lrest fl ih E1
    unfold FM.echStep at hk
    split at hk
    · exact (ih k hk).mono (by show _ ≤ eA b t + (b + t * (eA b t + 1)) + 1; omega)
    · rename_i c hc
      have hs := signed_bd (c := c) (bd_primitive hrest)
      have cl : c < n := by rw [← lrest]; exact (FM.pivotOf_some hc).1
      rcases List.mem_append.mp hk with hk | hk
      · obtain ⟨q, hq, rfl⟩ := List.mem_map.mp hk
        have lq := E1.len q hq
        exact clr_bd (by rw [signed_len, FM.primitive_length, lrest]; exact lq.symm) (by rw [lq]; exact cl) (ih q hq) hs
      · obtain rfl : k = _ := by simpa using hk
        exact hs.mono (by show _ ≤ eA b t + (b + t * (eA b t + 1)) + 1; omega)
/-- echelon as it stands, its code object at c -/
def HasC (K : PySem.W.Frag) (mg : Str → Option Value) (x : Str) (st : Stmt) (c : Addr) : Prop := ∃ f, (∃ (oc : Value) (od : Option Addr) (kV doc pm : Value) (an : Option Addr) (ct : Value) (osl : Array (Option Value)),
    K.lookup f = some ⟨oc, od, .func (PySem.W.fnOf x x (defArgs st) (defBody st) (defScope st) .none kV doc pm an (.ref c) ct), osl⟩) ∧ PySem.W.codeIn K (.ref c) x = true ∧ PySem.W.keepIn K (.ref f) = true ∧ mg x = some (.ref f)
theorem mkC {x : Str} {st : Stmt} {c : Addr} {N ps : List Str} {k n m : Nat} {F : List PyData → PyData → Prop} (h : HasC K mg x st c) (S : FnScope N ps (defScope st)) (hp : ps.length = n) (hN : N.length = n + m)
    (bind : ∀ (kV doc pm : Value) (an : Option Addr) (cdv ct : Value) (us : List Value), us.length = ps.length → bindArgs (PySem.W.fnOf x x (defArgs st) (defBody st) (defScope st) .none kV doc pm an cdv ct) ⟨us, []⟩ = pure (ps.zip us))
    (body : ∀ (f : Addr) (A : Around) (outer : List Env) (s : Shared) (H : Hp) (E : XK), Room k (A.deeper (envOfC x (defScope st) s.heap.objs.size f (.ref c))) →
      ∃ t, PSs (cxOf CX0 P w K mg base N x (defScope st) f (.ref c) A outer s H E).nox (defBody st) t ∧ ∀ ds r, F ds r → ds.length = n → Run K T t (args ds m) (.ret r) ∨ (r = .none ∧ ∃ e, Run K T t (args ds m) (.nx e))) :
    Dn P w K mg base (k + 1) x ps (SpD K T n F) := by
  obtain ⟨f, ⟨oc, od, kV, doc, pm, an, ct, osl, lk⟩, hcd, kp, hm⟩ := h
  refine ⟨f, _, fn_of lk hcd S (fun vs H Q E h => ?_) (fun A outer s H vs Q E hr h => ?_), hm, kp, Binds.all (bind _ _ _ _ _ _)⟩
  · obtain ⟨_, _, _, _, hl, _⟩ := h
    exact hl.trans hp.symm
  · obtain ⟨t, ht, hrun⟩ := body f A outer s H E hr
    exact ⟨t, ht.nox, run_def hN hrun h⟩
theorem D_echelon {c Pt : Addr} (h : HasC K mg "echelon" (top 12) c) (TB : TabB base mg c Pt) (hmT : (Pt, ("echelon.<locals>.<lambda>" : Str)) ∈ T) (huT : ∀ p ∈ T, p.1 = Pt → p.2 = ("echelon.<locals>.<lambda>" : Str))
    (d1 : Dn P w K mg base 2 "primitive" ["vector"] (SpD K T 1 F_primitive)) (d2 : Dn P w K mg base 3 "cleared" ["vector", "row", "column"] (SpD K T 3 F_cleared)) (d3 : Dn P w K mg base 1 "pivot_of" ["vector"] (SpD K T 1 F_pivot_of)) (m_list : mg "list" = none) (m_len : mg "len" = none) (m_sorted : mg "sorted" = none) :
    Dn P w K mg base 9 "echelon" ["rows"] (SpD K T 1 F_echelon) := by
  have nd := sc_echelon.nd
  obtain ⟨_, _, G_primitive, m_primitive, k_primitive, b_primitive⟩ := d1
  obtain ⟨_, _, G_cleared, m_cleared, k_cleared, b_cleared⟩ := d2
  obtain ⟨_, _, G_pivot_of, m_pivot_of, k_pivot_of, b_pivot_of⟩ := d3
  refine mkC (k := 8) (m := 7) h sc_echelon rfl rfl (fun _ _ _ _ _ _ us hl => match us, hl with | [_], _ => rfl) fun f A outer s H E hr => ⟨_, pss_cons (ps_set (i := 1) nd rfl (Or.inl rfl) (pe_lst pa_nil)) (pss_cons (ps_for PassesOwn.never rfl (pi_list (pv 0)) (pg_name (i := 2) nd rfl (Or.inl rfl)) (pss_cons (ps_set (i := 3) nd rfl (Or.inr rfl) (pe_callTy call_list_of (by rfl) m_list (by decide +kernel) (pa_cons (pv 2) pa_nil))) (pss_cons (ps_for PassesOwn.never rfl (pi_list (pv 1)) (pg_name (i := 4) nd rfl (Or.inl rfl)) (pss_one (ps_set (i := 3) nd rfl (Or.inr rfl) (pe_call G_cleared (hr.mono (by decide)) (by rfl) m_cleared k_cleared b_cleared .nil pass0 (pa_cons (pv 3) (pa_cons (pv 4) (pa_cons (pe_call G_pivot_of (hr.mono (by decide)) (by rfl) m_pivot_of k_pivot_of b_pivot_of .nil pass0 (pa_cons (pv 4) pa_nil)) pa_nil))))))) (pss_cons (ps_set (i := 5) nd rfl (Or.inr rfl) (pe_call G_pivot_of (hr.mono (by decide)) (by rfl) m_pivot_of k_pivot_of b_pivot_of .nil pass0 (pa_cons (pv 3) pa_nil))) (pss_one (ps_if (pt_cmp (pc_notN (pv 5)) rfl) (pss_cons (ps_set (i := 3) nd rfl (Or.inr rfl) (pe_call G_primitive (hr.mono (by decide)) (by rfl) m_primitive k_primitive b_primitive .nil pass0 (pa_cons (pv 3) pa_nil))) (pss_cons (ps_if (pt_cmpR op_lt (pe_ix ix_list (pv 3) (pv 5) (fun _ _ => rfl)) (pe_int) (nomark _)) (pss_one (ps_set (i := 3) nd rfl (Or.inr rfl) (pe_lc (own := [("item", 7)]) rfl nd (pi_list (pv 3)) (blkOk_by (own := [("item", 7)]) (N := n_echelon) (sc := defScope (top 12)) (by decide +kernel)) (fun _ _ _ _ _ => pg_name (i := 7) nd rfl (Or.inl rfl)) (fun _ _ _ _ _ => pts_nil) (fun _ _ _ _ _ => pe_un un_neg (pv 7))))) (pss_nil)) (pss_cons (ps_setLc (i := 1) (own := [("known", 4)]) rfl nd rfl rfl (sw_true rfl rfl rfl (by decide +kernel)) (pi_list (pv 1)) (blkOk_by (own := [("known", 4)]) (N := n_echelon) (sc := defScope (top 12)) (by decide +kernel)) (fun _ _ _ _ _ => pg_name (i := 4) nd rfl (Or.inl rfl)) (fun _ _ _ _ _ => pts_nil) (fun _ _ _ _ _ => pe_call G_cleared (hr.mono (by decide)) (by rfl) m_cleared k_cleared b_cleared .nil pass0 (pa_cons (pv 4) (pa_cons (pv 3) (pa_cons (pv 5) pa_nil))))) (pss_one (ps_expr (pe_bm PySem.F.plainAttrs_list PySem.F.slot_list_append PySem.F.type_list_append mt_append (pv 1) (pa_cons (pv 3) pa_nil))))))) (pss_nil))))))) (pss_cons (ps_set (i := 6) nd rfl (Or.inr rfl) (pe_ifExp (pt_truth (pv 1) (by intro _; rfl)) (pe_callB call_len_seq (by rfl) m_len PySem.boot_len (pa_cons (pe_ix ix_list (pv 1) (pe_int) (fun _ _ => rfl)) pa_nil)) (pe_int))) (pss_one (ps_ret (pe_sortK (x := "known") (NL := ["known", "size"]) (fr := ["size"]) (js := [6]) (k := 1) rfl m_sorted (pv 1) TB rfl hmT huT (hr.mono (by decide)) (nscope_by (by decide +kernel)) rfl rfl rfl (fun _ _ _ _ _ _ => rfl) (fun c2 f2 A2 outer2 s2 H2 hr2 => pe_op op_mod (pe_op op_sub (pe_call G_pivot_of (hr2.mono (by decide)) (by rfl) m_pivot_of k_pivot_of b_pivot_of .nil pass0 (pa_cons (pv 0) pa_nil)) (pe_int)) (pv 1))))))), ?_⟩
  rintro ds r ⟨n, b, rows, rfl, hn, hn2, hl, hb, hrl, hb8, hbits, rfl⟩ _
  refine .inl ?_
  have E1 : ∀ t, FM.Ech n ((rows.take t).foldl FM.echStep []) := fun t => (FM.echRaw_spec (n := n) (rows := rows.take t) fun x hx => hl x (List.mem_of_mem_take hx)).1
  refine run_seq (run_set (en_lst ea_nil (by simp)).e (by simp [args])) ?_
  refine run_seq (run_forN (ei_list (ev_var rfl)) (fun t => [.d (dVs rows), .d (dVs ((rows.take t).foldl FM.echStep [])), .un, .un, .un, .un, .un, .un]) rfl (fun i => by simp) ?_) ?_
  · intro t x hx
    obtain ⟨row, hrow, rfl⟩ := get_dVs hx
    have rm := List.mem_of_getElem? hrow
    have ht := (List.getElem?_eq_some_iff.mp hrow).1
    have Ef := E1 t
    have fl := found_len rows t
    have fb := found_bd hl hb t (Nat.le_of_lt ht)
    rw [List.take_add_one, hrow, List.foldl_append]
    simp only [Option.toList_some, List.foldl_cons, List.foldl_nil]
    generalize (rows.take t).foldl FM.echStep [] = F at fl fb Ef ⊢
    have lrow := hl row rm
    have lt : ∀ i, FM.Lens n (F.take i) := fun i x hx => Ef.len x (List.mem_of_mem_take hx)
    have lc : ∀ i, (FM.clears row (F.take i)).length = n := fun i => clears_len lrow (lt i)
    have lenk : ∀ k ∈ F, k.length = n := fun k hk => Ef.len k hk
    have bc : ∀ i, Bd (b + (F.take i).length * (eA b t + 1)) (FM.clears row (F.take i)) := fun i => clears_bd (n := n) lrow (lt i) (fun x hx => Ef.lt (List.mem_of_mem_take hx)) (fun x hx => fb x (List.mem_of_mem_take hx)) (hb row rm)
    have le : ∀ i, (F.take i).length * (eA b t + 1) ≤ t * (eA b t + 1) := fun i => Nat.mul_le_mul_right _ (by rw [List.length_take]; omega)
    have cap : ∀ k ∈ F, eA b t + (b + t * (eA b t + 1)) ≤ 8800 := fun k hk => hbits t ht (by have := List.length_pos_of_mem hk; omega)
    have cap0 : b + t * (eA b t + 1) ≤ 8800 := by
      rcases Nat.eq_zero_or_pos t with z | z
      · subst z; omega
      · have := hbits t ht z; omega
    have hR : FM.clears row (F.take F.length) = FM.clears row F := by rw [List.take_length]
    have lR : (FM.clears row F).length = n := by rw [← hR]; exact lc _
    have bR : Bd (b + t * (eA b t + 1)) (FM.clears row F) := by rw [← hR]; exact (bc _).mono (Nat.add_le_add_left (le _) _)
    refine (?_ : ∃ y3 y5, Run K T _ _ (.nx [.d (dVs rows), .d (dVs (FM.echStep F row)), .d (dV row), y3, .un, y5, .un, .un])).elim fun y3 h => h.elim fun y5 h => ⟨_, .inl (run_endF 3 (run_endF 5 h)), rfl⟩
    have inner : ∀ (i : Nat) (x : PyData), (F.map dV)[i]? = some x → ∃ e, Run K T _ ([Ent.d (dVs rows), .d (dVs F), .d (dV row), .d (dV (FM.clears row (F.take i))), .d x, .un, .un, .un]) (.nx e) ∧ e.set 4 .un = [Ent.d (dVs rows), .d (dVs F), .d (dV row), .d (dV (FM.clears row (F.take (i + 1)))), .un, .un, .un, .un] := fun i x hx => by
      obtain ⟨k, hk, rfl⟩ := get_dVs hx
      have km := List.mem_of_getElem? hk
      refine ⟨_, run_set (i := 3) (ev_call (n := 3) (F := F_cleared) (ds := [dV (FM.clears row (F.take i)), dV k, .int (FM.pv k : Nat)]) (r := dV (FM.clr (FM.clears row (F.take i)) k (FM.pv k))) (E := E0) (ea_cons (ev_var (i := 3) rfl) (ea_cons (ev_var (i := 4) rfl) (ea_cons (ev_call (n := 1) (F := F_pivot_of) (ds := [dV k]) (E := E0) (ea_cons (ev_var (i := 4) rfl) ea_nil) ⟨k, rfl, by rw [lenk k km]; omega, by rw [Ef.piv k km]; rfl⟩ rfl) ea_nil)))
        ⟨_, k, FM.pv k, _, eA b t, rfl, by rw [lc]; exact Ef.lt km, by rw [lc]; exact lenk k km, by rw [lc]; omega, bc i, fb k km, by have := le i; have := cap k km; omega, rfl⟩ rfl) (by simp), ?_⟩
      rw [take_clears hk]
      rfl
    cases hp : FM.pivotOf (FM.clears row F) with
    | none =>
      have e : FM.echStep F row = F := by unfold FM.echStep; rw [hp]
      rw [e]
      refine ⟨.d (dV (FM.clears row F)), .d .none, ?_⟩
      refine run_seq (run_set (en_list (ev_var rfl)).e (by simp)) ?_
      refine run_seq (run_forN (ei_list (ev_var rfl)) (fun i => [.d (dVs rows), .d (dVs F), .d (dV row), .d (dV (FM.clears row (F.take i))), .un, .un, .un, .un]) rfl (fun i => by simp) (fun i x hx => ?_)) ?_
      · obtain ⟨e, h1, h2⟩ := inner i x hx
        exact ⟨e, .inl h1, h2⟩
      · rw [List.length_map, hR]
        refine run_seq (run_set (ev_call (ea_cons (ev_var rfl) ea_nil) ⟨_, rfl, by rw [lR]; omega, by rw [hp]⟩ rfl) (by simp)) ?_
        exact run_if (et_test (ev_notN (ev_var rfl) rfl)) (fun q => by cases q) (fun _ => run_next)
    | some c =>
      have cl : c < n := by rw [← lR]; exact (FM.pivotOf_some hp).1
      have lS : (FM.signed (FM.primitive (FM.clears row F)) c).length = n := by rw [signed_len, FM.primitive_length, lR]
      have bS := signed_bd (c := c) (bd_primitive bR)
      have e : FM.echStep F row = (F.map fun k => FM.clr k (FM.signed (FM.primitive (FM.clears row F)) c) c) ++ [FM.signed (FM.primitive (FM.clears row F)) c] := by unfold FM.echStep; rw [hp]
      rw [e]
      refine ⟨.d (dV (FM.signed (FM.primitive (FM.clears row F)) c)), .d (.int (c : Nat)), ?_⟩
      refine run_seq (run_set (en_list (ev_var rfl)).e (by simp)) ?_
      refine run_seq (run_forN (ei_list (ev_var rfl)) (fun i => [.d (dVs rows), .d (dVs F), .d (dV row), .d (dV (FM.clears row (F.take i))), .un, .un, .un, .un]) rfl (fun i => by simp) (fun i x hx => ?_)) ?_
      · obtain ⟨e, h1, h2⟩ := inner i x hx
        exact ⟨e, .inl h1, h2⟩
      rw [List.length_map, hR]
      refine run_seq (run_set (ev_call (ea_cons (ev_var rfl) ea_nil) ⟨_, rfl, by rw [lR]; omega, by rw [hp]⟩ rfl) (by simp)) ?_
      refine run_if (et_test (ev_notN (ev_var rfl) rfl)) (fun _ => ?_) (fun q => by cases q)
      refine run_seq (run_set (ev_call (ea_cons (ev_var rfl) ea_nil) ⟨FM.clears row F, rfl, bR.mono (by omega), by rw [lR]; omega, rfl⟩ rfl) (by simp)) ?_
      have lP : (FM.primitive (FM.clears row F)).length = n := by rw [FM.primitive_length, lR]
      generalize FM.primitive (FM.clears row F) = Pv at lS bS lP ⊢
      have tst : EvT K T _ ([Ent.d (dVs rows), .d (dVs F), .d (dV row), .d (dV Pv), .un, .d (.int (c : Nat)), .un, .un]) (decide (FM.col Pv c < 0)) := et_test (ev_op (ev_op (ev_var (i := 3) rfl) (ev_var (i := 5) rfl) (op_ixL (at_nat (get_dV (by rw [lP]; exact cl))))) (ev_int (i := 0)) op_ltI)
      have sgn : Run K T (tIfS (tTest (tOp (rI0 fun i j => .bl (decide (i < j))) (tOp (rIxL K) (tVar 3) (tVar 5)) (tC (.int 0)))) (tAsg (tLc (iList K (tVar 3)) (gName 7) tYes (tUn (rU fun i => .int (-i)) (tVar 7)) [7]) (gName 3)) tNext) ([Ent.d (dVs rows), .d (dVs F), .d (dV row), .d (dV Pv), .un, .d (.int (c : Nat)), .un, .un]) (.nx [Ent.d (dVs rows), .d (dVs F), .d (dV row), .d (dV (FM.signed Pv c)), .un, .d (.int (c : Nat)), .un, .un]) := by
        unfold FM.signed
        by_cases hneg : FM.col Pv c < 0
        · rw [if_pos hneg]
          have em : dV (FM.neg Pv) = .list ((Pv.map PyData.int).map fun d => .int (- unI d)) := by
            unfold dV FM.neg; rw [List.map_map, List.map_map]; rfl
          rw [em]
          refine run_if (t := tAsg (tLc (iList K (tVar 3)) (gName 7) tYes (tUn (rU fun i => .int (-i)) (tVar 7)) [7]) (gName 3)) (u := tNext) tst (fun _ => run_set (en_map (K := K) (T := T) (te := tUn (rU fun i => .int (-i)) (tVar 7)) (ei_list (ev_var (i := 3) rfl)) (fun d => .int (- unI d)) (vs := [7]) (by simp) (fun x => [Ent.d (dVs rows), .d (dVs F), .d (dV row), .d (dV Pv), .un, .d (.int (c : Nat)), .un, .d x]) (by rw [List.length_map]; omega) (ws := [7]) (by simp) (fun x hx => tg_name (by simp [wipeE])) (fun x hx => ?_)).e (by simp)) (fun q => absurd q (by simpa using hneg))
          obtain ⟨z, _, rfl⟩ := List.mem_map.mp hx
          exact ev_neg (ev_var (i := 7) rfl)
        · rw [if_neg hneg]
          exact run_if tst (fun q => absurd q (by simpa using hneg)) (fun _ => run_next)
      refine run_seq sgn ?_
      generalize FM.signed Pv c = S at lS bS ⊢
      have cm : ((F.map dV).map fun d => dV (FM.clr (unV d) S c)) = (F.map fun k => FM.clr k S c).map dV := by
        rw [List.map_map, List.map_map]; exact List.map_congr_left fun k _ => by simp
      have fz : F.length ≤ 1000 := by omega
      refine run_seq (run_setN (en_map (ei_list (ev_var rfl)) (fun d => dV (FM.clr (unV d) S c)) (vs := [4]) (by simp) (fun x => [Ent.d (dVs rows), .d (dVs F), .d (dV row), .d (dV S), .d x, .d (.int (c : Nat)), .un, .un]) (by rw [List.length_map]; omega) (ws := [4]) (by simp) (fun x hx => tg_name (by simp [wipeE])) (fun x hx => ?_)) (by simp)) ?_
      · obtain ⟨k, km, rfl⟩ := List.mem_map.mp hx
        rw [unV_dV]
        exact ev_call (ea_cons (ev_var rfl) (ea_cons (ev_var rfl) (ea_cons (ev_var rfl) ea_nil))) ⟨k, S, c, eA b t, _, rfl, by rw [lenk k km]; exact cl, by rw [lenk k km]; exact lS, by rw [lenk k km]; omega, fb k km, bS, by have := cap k km; omega, rfl⟩ rfl
      · rw [cm]
        refine run_eq (run_endZ (i := 1) (xs := (F.map fun k => FM.clr k S c).map dV ++ [dV S]) rfl (run_app (xs := (F.map fun k => FM.clr k S c).map dV) rfl (ev_var rfl) (by simp; omega))) ?_
        simp [dVs]
  · rw [List.length_map, List.take_length]
    show Run K T _ [.d (dVs rows), .d (dVs (FM.echRaw rows)), .un, .un, .un, .un, .un, .un] _
    have Ef : FM.Ech n (FM.echRaw rows) := by have := E1 rows.length; rwa [List.take_length] at this
    have fl : (FM.echRaw rows).length ≤ 1000 := by have := FM.echRaw_len rows []; simp at this; unfold FM.echRaw; omega
    unfold FM.echelon
    generalize FM.echRaw rows = F at Ef fl ⊢
    have sm : ((F.map dV).mergeSort fun p q => decide (FM.keyOf n (unV p) ≤ FM.keyOf n (unV q))) = (F.mergeSort fun a b => decide (FM.keyOf n a ≤ FM.keyOf n b)).map dV := by
      rw [List.map_mergeSort (s := fun p q => decide (FM.keyOf n (unV p) ≤ FM.keyOf n (unV q))) (fun a _ b _ => by rw [unV_dV, unV_dV])]
    have key : ∀ (cap : Int), (F ≠ [] → cap = n) → ∀ x ∈ F.map dV, EvE K T (tOp (rI (fun _ j => 0 < j) fun i j => .int (i % j)) (tOp (rI0 fun i j => .int (i - j)) (tCall (SpD K T 1 F_pivot_of) [] E0 (tCons (tVar 0) tNil)) (tC (.int 1))) (tVar 1)) [.d x, .d (.int cap)] (.int (FM.keyOf n (unV x))) := fun cap hc x hx => by
      obtain ⟨k, km, rfl⟩ := List.mem_map.mp hx
      obtain rfl : cap = n := hc fun z => by subst z; cases km
      rw [unV_dV]
      refine ev_op (ev_op (ev_call (ds := [dV k]) (r := .int (FM.pv k : Nat)) (ea_cons (ev_var rfl) ea_nil) ⟨k, rfl, by rw [Ef.len k km]; omega, by rw [Ef.piv k km]; rfl⟩ rfl) ev_int op_sub) (ev_var rfl) (op_modI (by omega))
    have fin : ∀ (cap : Int), (F ≠ [] → cap = n) → Run K T (tRet (tSortK T ["known", "size"] [6] (tVar 1) (tOp (rI (fun _ j => 0 < j) fun i j => .int (i % j)) (tOp (rI0 fun i j => .int (i - j)) (tCall (SpD K T 1 F_pivot_of) [] E0 (tCons (tVar 0) tNil)) (tC (.int 1))) (tVar 1)))) [.d (dVs rows), .d (dVs F), .un, .un, .un, .un, .d (.int cap), .un] (.ret (dVs (F.mergeSort fun a b => decide (FM.keyOf n a ≤ FM.keyOf n b)))) := fun cap hc => by
      refine run_ret (ev_eq (en_sortK (fun d => FM.keyOf n (unV d)) (ev_var rfl) (cap := .int cap) rfl rfl (key cap hc) (by rw [List.length_map]; omega)).e ?_)
      rw [sm]; rfl
    cases F with
    | nil =>
      refine run_seq (run_set (i := 6) (x := .int 0) (ev_if (et_truL (ev_var (i := 1) rfl)) (fun q => by simp at q) (fun _ => ev_int)) (by simp)) ?_
      exact fin 0 fun z => absurd rfl z
    | cons k F =>
      refine run_seq (run_set (i := 6) (x := .int n) (ev_if (et_truL (ev_var (i := 1) rfl)) (fun _ => ev_eq (ev_len (ev_op (ev_var (i := 1) rfl) (ev_int (i := 0)) (op_ixL (i := 0) (x := dV k) (at_nat (i := 0) rfl)))) ?_) (fun q => by simp at q)) (by simp)) ?_
      · rw [List.length_map, Ef.len k (by simp)]
      · exact fin n fun _ => rfl
end FD
end
section
set_option Elab.async false
set_option linter.all false
set_option maxRecDepth 100000
set_option maxHeartbeats 4000000
/-! Builder -/
namespace FD
open PySem PySem.Spec PyProof.Rows L2 LamX FW FT
variable {P : Program} {w : World} {K : PySem.W.Frag} {mg : Str → Option Value} {base : Heap} {T : List (Addr × Str)} {C : Addr}
/-! ### methods -/
def HasM (K : PySem.W.Frag) (C : Addr) (x qual : Str) (st : Stmt) : Prop := ∃ f fd, FunD K x qual (defArgs st) (defBody st) (defScope st) [] [] f fd ∧ Meth K C x f
def Mn (P : Program) (w : World) (K : PySem.W.Frag) (mg : Str → Option Value) (base : Heap) (k : Nat) (C : Addr) (x : Str) (ps : List Str) (sp : Sp) : Prop :=
  ∃ f fd, FnOk P w K mg base CX0 k f fd ps sp ∧ Meth K C x f ∧ Binds K fd ps []
structure ClsB (K : PySem.W.Frag) (C : Addr) : Prop where
  c : Cls K C
  l : NoAttr K C "lines"
  r : NoAttr K C "rays"
  n : NoAttr K C "count"
theorem mkM {x qual : Str} {st : Stmt} {N ps : List Str} {k n m : Nat} {F : Fd → List PyData → Fd → PyData → Prop} (h : HasM K C x qual st) (S : FnScope N ps (defScope st)) (hp : ps.length = n + 1) (hN : N.length = n + 1 + m)
    (bind : ∀ (kV doc pm : Value) (an : Option Addr) (cdv ct : Value) (us : List Value), us.length = ps.length → bindArgs (PySem.W.fnOf x qual (defArgs st) (defBody st) (defScope st) .none kV doc pm an cdv ct) ⟨us, []⟩ = pure (ps.zip us))
    (body : ∀ (f : Addr) (cdv : Value) (A : Around) (outer : List Env) (s : Shared) (H : Hp) (E : XK), Room k (A.deeper (envOfC qual (defScope st) s.heap.objs.size f cdv)) →
      ∃ t, PSs (cxOf CX0 P w K mg base N qual (defScope st) f cdv A outer s H E).nox (defBody st) t ∧ ∀ fd ds fd' r, F fd ds fd' r → ds.length = n → Run K T t (argsO C fd .me ds m) (.rt r (some (C, fd'))) ∨ (r = .none ∧ ∃ e, Run K T t (argsO C fd .me ds m) (.nx e) ∧ e[0]? = some (.obj C fd' .me))) :
    Mn P w K mg base (k + 1) C x ps (SpM K T C n F) := by
  obtain ⟨f, fd, Fd, hm⟩ := h
  refine ⟨f, fd, Fd.ok S (fun vs H Q E h => ?_) (fun cdv A outer s H vs Q E hr h => ?_), hm, Fd.bindsN bind⟩
  · obtain ⟨Av, o, dx, fs, us, ds, r, fd, fd', hF, rfl, hl, _⟩ := h
    rw [List.length_cons, hl, hp]
  · obtain ⟨t, ht, hrun⟩ := body f cdv A outer s H E hr
    exact ⟨t, ht.nox, run_defM hN hrun h⟩
theorem mkO {x qual : Str} {st : Stmt} {N ps : List Str} {k n m : Nat} {F : Fd → List PyData → PyData → Prop} (h : HasM K C x qual st) (S : FnScope N ps (defScope st)) (hp : ps.length = n + 1) (hN : N.length = n + 1 + m)
    (bind : ∀ (kV doc pm : Value) (an : Option Addr) (cdv ct : Value) (us : List Value), us.length = ps.length → bindArgs (PySem.W.fnOf x qual (defArgs st) (defBody st) (defScope st) .none kV doc pm an cdv ct) ⟨us, []⟩ = pure (ps.zip us))
    (body : ∀ (f : Addr) (cdv : Value) (A : Around) (outer : List Env) (s : Shared) (H : Hp) (E : XK), Room k (A.deeper (envOfC qual (defScope st) s.heap.objs.size f cdv)) →
      ∃ t, PSs (cxOf CX0 P w K mg base N qual (defScope st) f cdv A outer s H E).nox (defBody st) t ∧ ∀ fd ds r, F fd ds r → ds.length = n → Run K T t (argsO C fd .rd ds m) (.ret r)) :
    Mn P w K mg base (k + 1) C x ps (SpO K T C n F) := by
  obtain ⟨f, fd, Fd, hm⟩ := h
  refine ⟨f, fd, Fd.ok S (fun vs H Q E h => ?_) (fun cdv A outer s H vs Q E hr h => ?_), hm, Fd.bindsN bind⟩
  · obtain ⟨Av, o, dx, fs, us, ds, r, fd, hF, rfl, hl, _⟩ := h
    rw [List.length_cons, hl, hp]
  · obtain ⟨t, ht, hrun⟩ := body f cdv A outer s H E hr
    exact ⟨t, ht.nox, run_defO hN hrun h⟩
/-! ### data -/
def dRay (r : List Int × Nat) : PyData := .tuple [dV r.1, .int (r.2 : Nat)]
def dRays (rs : List (List Int × Nat)) : PyData := .list (rs.map dRay)
def fdB (B : FM.Bld) : Fd := [("lines", some (dVs B.lines)), ("rays", some (dRays B.rays)), ("count", some (.int (B.count : Nat)))]
def unR : PyData → List Int × Nat
  | .tuple [v, .int i] => (unV v, i.toNat)
  | _ => ([], 0)
@[simp] theorem unR_dRay (r : List Int × Nat) : unR (dRay r) = r := by unfold unR dRay; simp
theorem band_nat (a b : Nat) : Builtin.bitAnd (a : Int) (b : Int) = ((a &&& b : Nat) : Int) := by
  unfold Builtin.bitAnd
  simp
theorem bor_nat (a b : Nat) : Builtin.bitOr (a : Int) (b : Int) = ((a ||| b : Nat) : Int) := by
  unfold Builtin.bitOr Builtin.bitAnd
  have h1 : ∀ n : Nat, Builtin.bitNot (n : Int) < 0 := fun n => by unfold Builtin.bitNot; omega
  have h2 : ∀ z : Int, Builtin.bitNot (Builtin.bitNot z) = z := fun z => by unfold Builtin.bitNot; omega
  have e1 : decide (0 ≤ Builtin.bitNot (a : Int)) = false := by have := h1 a; simp; omega
  have e2 : decide (0 ≤ Builtin.bitNot (b : Int)) = false := by have := h1 b; simp; omega
  rw [e1, e2]
  simp only [h2, Int.toNat_natCast]
/-- sizes and bits -/
structure BOk (n a b : Nat) (B : FM.Bld) : Prop where
  n1 : n ≤ 1000
  lenl : FM.Lens n B.lines
  lenr : ∀ r ∈ B.rays, r.1.length = n
  bl : ∀ l ∈ B.lines, Bd a l
  br : ∀ r ∈ B.rays, Bd b r.1
  cl : B.lines.length ≤ 1000
  cr : B.rays.length ≤ 300
  cc : B.count ≤ 1000
theorem get_dRays {R : List (List Int × Nat)} {i : Nat} {x : PyData} (h : (R.map dRay)[i]? = some x) : ∃ k, R[i]? = some k ∧ x = dRay k := by
  rw [List.getElem?_map, Option.map_eq_some_iff] at h
  obtain ⟨k, hk, rfl⟩ := h
  exact ⟨k, hk, rfl⟩
theorem dot_bd {a b n : Nat} : ∀ {u v : List Int}, Bd a u → Bd b v → u.length ≤ n → (FM.dot u v).natAbs ≤ n * 2 ^ (a + b)
  | [], v, _, _, _ => by simp
  | x :: u, [], _, _, _ => by simp
  | x :: u, y :: v, ha, hb, hl => by
    obtain ⟨m, rfl⟩ : ∃ m, n = m + 1 := ⟨n - 1, by simp at hl; omega⟩
    have ih := dot_bd (n := m) (u := u) (v := v) (fun z hz => ha z (by simp [hz])) (fun z hz => hb z (by simp [hz])) (by simpa using hl)
    have h1 := wide_lt (ha x (by simp)) (hb y (by simp))
    rw [FM.dot_cons, Nat.succ_mul]
    omega
theorem dot_bd2 {a b : Nat} {u v : List Int} (ha : Bd a u) (hb : Bd b v) (hl : u.length ≤ 1000) : (FM.dot u v).natAbs < 2 ^ (a + b + 10) := by
  have := dot_bd (n := 1000) ha hb hl
  rw [Nat.pow_add 2 (a + b) 10]
  have p := Nat.two_pow_pos (a + b)
  omega
/-- what turning makes, small enough -/
theorem adj_ok {m a b n : Nat} {c l o : List Int} (hc : Bd m c) (hl : Bd a l) (ho : Bd b o) (lc : c.length = n) (ll : l.length = n) (lo : o.length = n) (hn : n ≤ 1000) (h : m + a + b + 20 ≤ 8900) :
    Bd (m + a + b + 11) (FM.comb (FM.dot c l) o (-FM.dot c o) l) := by
  refine comb_bd (j := m + a + 10) (k := m + b + 10) (dot_bd2 hc hl (by omega)) (by rw [Int.natAbs_neg]; exact dot_bd2 hc ho (by omega)) ho hl (by omega) (by omega)
abbrev n_Builder___init__ : List Str := ["self", "size", "k", "i"]
theorem sc_Builder___init__ : FnScope n_Builder___init__ ["self", "size"] (defScope (inClass (top 15) 0)) := ⟨rfl, rfl, rfl, by decide +kernel, rfl, by decide +kernel, by decide +kernel⟩
def F_init (fd : Fd) (ds : List PyData) (fd' : Fd) (r : PyData) : Prop := ∃ n : Nat, n ≤ 1000 ∧ fd = [] ∧ ds = [.int (n : Nat)] ∧ fd' = fdB (FM.start n) ∧ r = .none
theorem D_init (h : HasM K C "__init__" "Builder.__init__" (inClass (top 15) 0)) (cB : ClsB K C) (m_range : mg "range" = none) : Mn P w K mg base 1 C "__init__" ["self", "size"] (SpM K T C 1 F_init) := by
  have nd := sc_Builder___init__.nd
  refine mkM (m := 2) h sc_Builder___init__ rfl rfl (fun _ _ _ _ _ _ us hl => match us, hl with | [_, _], _ => rfl) fun f cdv A outer s H E hr => ⟨_, pss_cons (ps_fld (pv 0) (pe_lc (own := [("k", 2)]) rfl nd (pi_range1 (by rfl) m_range (pa_cons (pv 1) pa_nil)) (blkOk_by (own := [("k", 2)]) (N := n_Builder___init__) (sc := defScope (inClass (top 15) 0)) (by decide +kernel)) (fun _ _ _ _ _ => pg_name (i := 2) nd rfl (Or.inr rfl)) (fun _ _ _ _ _ => pts_nil) (fun _ _ _ _ _ => pe_lc (own := [("i", 3)]) rfl nd (pi_range1 (by rfl) m_range (pa_cons (pv 1) pa_nil)) (blkOk_by (own := [("i", 3)]) rfl) (fun _ _ _ _ _ => pg_name (i := 3) nd rfl (Or.inl rfl)) (fun _ _ _ _ _ => pts_nil) (fun _ _ _ _ _ => pe_ifExp (pt_cmpR op_eq (pv 3) (pv 2) (nomark _)) (pe_int) (pe_int)))) rfl) (pss_cons (ps_fld (pv 0) (pe_lst pa_nil) rfl) (pss_one (ps_fld (pv 0) (pe_int) rfl))), ?_⟩
  rintro fd ds fd' r ⟨n, hn, rfl, rfl, rfl, rfl⟩ _
  refine .inr ⟨rfl, ?_⟩
  refine ⟨_, run_seq (run_fld (x := dVs (FM.start n).lines) rfl (by simp) rfl ?_ cB.c cB.l (by simp)) (run_seq (run_fld (fd := [("lines", some (dVs (FM.start n).lines))]) rfl (by simp) rfl (en_lst ea_nil (by simp)).e cB.c cB.r (by simp)) (run_fld (fd := [("lines", some (dVs (FM.start n).lines)), ("rays", some (.list []))]) rfl (by simp) rfl ev_int cB.c cB.n (by simp))), rfl⟩
  refine ev_eq (en_map (ei_range1 (ea_cons (ev_var (i := 1) rfl) ea_nil) (by omega) (by omega)) (fun d => dV (FM.unit n (unI d).toNat)) (vs := [2]) (by simp [argsO, args]) (fun x => [.obj C [] .me, .d (.int (n : Nat)), .d x, .un]) (by simp; omega) (ws := [2]) (by simp) (fun x hx => tg_name (by simp [wipeE, argsO, args])) (fun x hx => ?_)).e ?_
  · obtain ⟨k, hk, rfl⟩ := List.mem_map.mp hx
    refine ev_eq (en_map (ei_range1 (ea_cons (ev_var (i := 1) rfl) ea_nil) (by omega) (by omega)) (fun d => .int (if unI d = k then 1 else 0)) (vs := [3]) (by simp) (fun x => [.obj C [] .me, .d (.int (n : Nat)), .d (.int (k : Nat)), .d x]) (by simp; omega) (ws := [3]) (by simp) (fun x hx => tg_name (by simp [wipeE])) (fun x hx => ?_)).e ?_
    · obtain ⟨j, hj, rfl⟩ := List.mem_map.mp hx
      refine ev_if (et_test (ev_op (ev_var (i := 3) rfl) (ev_var (i := 2) rfl) op_eqI)) (fun q => ?_) (fun q => ?_)
      · have : (j : Int) = k := by simpa using q
        exact ev_eq ev_int (by simp [unI, this])
      · have : ¬ (j : Int) = k := by simpa using q
        exact ev_eq ev_int (by simp [unI]; omega)
    · unfold dV FM.unit
      rw [List.map_map, List.map_map]
      congr 1
      refine List.map_congr_left fun j _ => ?_
      simp only [Function.comp, unI, Int.toNat_natCast]
      by_cases e : j = k
      · subst e; simp
      · exact congrArg PyData.int ((if_neg (show ¬ (j : Int) = (k : Int) by omega)).trans (if_neg e).symm)
  · unfold dVs FM.start
    rw [List.map_map, List.map_map]
    congr 1
theorem get_enum {L : List (List Int)} {i : Nat} {x : PyData} (h : ((L.map dV).zipIdx.map fun p => PyData.tuple [.int (p.2 : Nat), p.1])[i]? = some x) : ∃ l, L[i]? = some l ∧ x = .tuple [.int (i : Nat), dV l] := by
  rw [List.getElem?_map, Option.map_eq_some_iff] at h
  obtain ⟨p, hp, rfl⟩ := h
  rw [List.getElem?_zipIdx, Option.map_eq_some_iff] at hp
  obtain ⟨z, hz, rfl⟩ := hp
  obtain ⟨l, hl, rfl⟩ := get_dVs hz
  exact ⟨l, hl, by simp⟩
theorem findTurn_pre {c : List Int} : ∀ {ls a b : List (List Int)} {l : List Int}, FM.findTurn c ls = some (a, l, b) → ∀ x ∈ a, FM.dot c x = 0
  | [], _, _, _, h => by simp [FM.findTurn] at h
  | x :: ls, a, b, l, h => by
    unfold FM.findTurn at h
    split at h
    · simp only [Option.some.injEq, Prod.mk.injEq] at h
      obtain ⟨rfl, _, _⟩ := h
      intro x hx; cases hx
    · rename_i hx
      split at h
      · cases h
      · rename_i a' l' b' e
        simp only [Option.some.injEq, Prod.mk.injEq] at h
        obtain ⟨rfl, rfl, rfl⟩ := h
        intro y hy
        rcases List.mem_cons.mp hy with rfl | hy
        · simpa using hx
        · exact findTurn_pre e y hy
theorem dot_neg_r : ∀ c v : List Int, FM.dot c (FM.neg v) = - FM.dot c v
  | [], v => by simp
  | _ :: _, [] => by simp [FM.neg]
  | x :: c, y :: v => by
    have := dot_neg_r c v
    unfold FM.neg at this ⊢
    rw [List.map_cons, FM.dot_cons, FM.dot_cons, this]
    rw [Int.mul_neg]; omega
theorem cut_out (p s : List (List Int)) (l : List Int) : (((((p ++ l :: s).map dV).drop (HT.sIx ((p ++ l :: s).map dV).length 0 none)).take (HT.sIx ((p ++ l :: s).map dV).length ((p ++ l :: s).map dV).length (some (p.length : Int)) - HT.sIx ((p ++ l :: s).map dV).length 0 none)) ++
    ((((p ++ l :: s).map dV).drop (HT.sIx ((p ++ l :: s).map dV).length 0 (some ((p.length + 1 : Nat) : Int)))).take (HT.sIx ((p ++ l :: s).map dV).length ((p ++ l :: s).map dV).length none - HT.sIx ((p ++ l :: s).map dV).length 0 (some ((p.length + 1 : Nat) : Int))))) = (p ++ s).map dV := by
  rw [HT.sIx_none, HT.sIx_none, HT.sIx_nat, HT.sIx_nat]
  have hl : ((p ++ l :: s).map dV).length = p.length + 1 + s.length := by simp; omega
  rw [hl, Nat.min_eq_left (by omega), Nat.min_eq_left (by omega)]
  simp only [List.drop_zero, Nat.sub_zero, List.map_append, List.map_cons]
  congr 1
  · rw [List.take_append_of_le_length (by simp), List.take_of_length_le (by simp)]
  · have e : p.map dV ++ dV l :: s.map dV = (p.map dV ++ [dV l]) ++ s.map dV := by simp
    rw [e, List.drop_append_of_le_length (by simp), List.drop_eq_nil_of_le (by simp), List.nil_append, List.take_of_length_le (by simp)]
abbrev n_Builder_turn_line : List Str := ["self", "condition", "at", "line", "value", "rest", "item", "other", "ray", "mask"]
theorem sc_Builder_turn_line : FnScope n_Builder_turn_line ["self", "condition"] (defScope (inClass (top 15) 1)) := ⟨rfl, rfl, rfl, by decide +kernel, rfl, by decide +kernel, by decide +kernel⟩
def F_turn_line (fd : Fd) (ds : List PyData) (fd' : Fd) (r : PyData) : Prop := ∃ (n a b m : Nat) (B : FM.Bld) (c : List Int), fd = fdB B ∧ ds = [dV c] ∧ BOk n a b B ∧ c.length = n ∧ Bd m c ∧ 2 * a + m + 20 ≤ 8900 ∧ m + a + b + 20 ≤ 8900 ∧ (match FM.turnLine c B with
  | none => r = .none ∧ fd' = fdB B
  | some (l, ls, rs) => r = dV l ∧ fd' = fdB ⟨ls, rs, B.count⟩)
theorem D_turn_line (h : HasM K C "turn_line" "Builder.turn_line" (inClass (top 15) 1)) (cB : ClsB K C) (d1 : Dn P w K mg base 2 "primitive" ["vector"] (SpD K T 1 F_primitive)) (d2 : Dn P w K mg base 1 "combined" ["first", "vector", "second", "other"] (SpD K T 4 F_combined)) (d3 : Dn P w K mg base 1 "dot" ["first", "second"] (SpD K T 2 F_dot)) (m_enumerate : mg "enumerate" = none) : Mn P w K mg base 3 C "turn_line" ["self", "condition"] (SpM K T C 1 F_turn_line) := by
  have nd := sc_Builder_turn_line.nd
  obtain ⟨_, _, G_primitive, m_primitive, k_primitive, b_primitive⟩ := d1
  obtain ⟨_, _, G_combined, m_combined, k_combined, b_combined⟩ := d2
  obtain ⟨_, _, G_dot, m_dot, k_dot, b_dot⟩ := d3
  refine mkM (m := 8) h sc_Builder_turn_line rfl rfl (fun _ _ _ _ _ _ us hl => match us, hl with | [_, _], _ => rfl) fun f cdv A outer s H E hr => ⟨_, pss_cons (ps_for PassesOwn.never rfl (pi_enum (by rfl) m_enumerate (pa_cons (pe_fld (pv 0) rfl) pa_nil)) (pg_tup rfl (pgs_cons (pg_name (i := 2) nd rfl (Or.inl rfl)) (pgs_cons (pg_name (i := 3) nd rfl (Or.inr rfl)) pgs_nil))) (pss_cons (ps_set (i := 4) nd rfl (Or.inr rfl) (pe_call G_dot (hr.mono (by decide)) (by rfl) m_dot k_dot b_dot .nil pass0 (pa_cons (pv 1) (pa_cons (pv 3) pa_nil)))) (pss_one (ps_if (pt_cmpR op_ne (pv 4) (pe_int) (nomark _)) (pss_cons (ps_if (pt_cmpR op_lt (pv 4) (pe_int) (nomark _)) (pss_cons (ps_set (i := 3) nd rfl (Or.inr rfl) (pe_lc (own := [("item", 6)]) rfl nd (pi_list (pv 3)) (blkOk_by (own := [("item", 6)]) (N := n_Builder_turn_line) (sc := defScope (inClass (top 15) 1)) (by decide +kernel)) (fun _ _ _ _ _ => pg_name (i := 6) nd rfl (Or.inl rfl)) (fun _ _ _ _ _ => pts_nil) (fun _ _ _ _ _ => pe_un un_neg (pv 6)))) (pss_one (ps_set (i := 4) nd rfl (Or.inr rfl) (pe_un un_neg (pv 4))))) (pss_nil)) (pss_cons (ps_set (i := 5) nd rfl (Or.inl rfl) (pe_op op_cat (pe_slice sl_list (pe_fld (pv 0) rfl) po_none (po_some (pv 2))) (pe_slice sl_list (pe_fld (pv 0) rfl) (po_some (pe_op op_add (pv 2) (pe_int))) po_none))) (pss_cons (ps_fld (pv 0) (pe_lc (own := [("other", 7)]) rfl nd (pi_list (pv 5)) (blkOk_by (own := [("other", 7)]) (N := n_Builder_turn_line) (sc := defScope (inClass (top 15) 1)) (by decide +kernel)) (fun _ _ _ _ _ => pg_name (i := 7) nd rfl (Or.inl rfl)) (fun _ _ _ _ _ => pts_nil) (fun _ _ _ _ _ => pe_call G_primitive (hr.mono (by decide)) (by rfl) m_primitive k_primitive b_primitive .nil pass0 (pa_cons (pe_call G_combined (hr.mono (by decide)) (by rfl) m_combined k_combined b_combined .nil pass0 (pa_cons (pv 4) (pa_cons (pv 7) (pa_cons (pe_un un_neg (pe_call G_dot (hr.mono (by decide)) (by rfl) m_dot k_dot b_dot .nil pass0 (pa_cons (pv 1) (pa_cons (pv 7) pa_nil)))) (pa_cons (pv 3) pa_nil))))) pa_nil))) rfl) (pss_cons (ps_fld (pv 0) (pe_lc (own := [("ray", 8), ("mask", 9)]) rfl nd (pi_list (pe_fld (pv 0) rfl)) (blkOk_by (own := [("ray", 8), ("mask", 9)]) (N := n_Builder_turn_line) (sc := defScope (inClass (top 15) 1)) (by decide +kernel)) (fun _ _ _ _ _ => pg_tupK (K := K) (n := 2) rfl rfl (pgs_cons (pg_name (i := 8) nd rfl (Or.inl rfl)) (pgs_cons (pg_name (i := 9) nd rfl (Or.inl rfl)) pgs_nil))) (fun _ _ _ _ _ => pts_nil) (fun _ _ _ _ _ => pe_tup (pa_cons (pe_call G_primitive (hr.mono (by decide)) (by rfl) m_primitive k_primitive b_primitive .nil pass0 (pa_cons (pe_call G_combined (hr.mono (by decide)) (by rfl) m_combined k_combined b_combined .nil pass0 (pa_cons (pv 4) (pa_cons (pv 8) (pa_cons (pe_un un_neg (pe_call G_dot (hr.mono (by decide)) (by rfl) m_dot k_dot b_dot .nil pass0 (pa_cons (pv 1) (pa_cons (pv 8) pa_nil)))) (pa_cons (pv 3) pa_nil))))) pa_nil)) (pa_cons (pv 9) pa_nil)))) rfl) (pss_one (ps_ret (pv 3))))))) (pss_nil))))) (pss_one (ps_ret (pe_non))), ?_⟩
  rintro fd ds fd' r ⟨n, a, b, m, B, c, rfl, rfl, bo, lc, hc, h2, h3, hres⟩ _
  refine .inl ?_
  have lenv : ∀ l ∈ B.lines, l.length = n := bo.lenl
  have h1000 := bo.n1
  have dotv : ∀ (env : En) (i j : Nat) (v : List Int) (k : Nat), env[i]? = some (.d (dV c)) → env[j]? = some (.d (dV v)) → Bd k v → k ≤ 100000 → EvE K T (tCall (SpD K T 2 F_dot) [] E0 (tCons (tVar i) (tCons (tVar j) tNil))) env (.int (FM.dot c v)) := fun env i j v k hi hj hv hk =>
    ev_call (ea_cons (ev_var hi) (ea_cons (ev_var hj) ea_nil)) ⟨c, v, rfl, hc.mono (by omega), hv.mono (by omega), by omega, rfl⟩ rfl
  have pass : ∀ (ts : TS) (i : Nat) (l : List Int), B.lines[i]? = some l → FM.dot c l = 0 → ∃ h e, TgE K T (gTup K 2 (gCons (gName 2) (gCons (gName 3) gNil))) (argsO C (fdB B) .me [dV c] 8) (.tuple [.int (i : Nat), dV l]) h ([2] ++ ([3] ++ [])) ∧ (Run K T (tSeq (tAsg (tCall (SpD K T 2 F_dot) [] E0 (tCons (tVar 1) (tCons (tVar 3) tNil))) (gName 4)) (tIfS (tTest (tOp rNe (tVar 4) (tC (.int 0)))) ts tNext)) h (.nx e) ∨ Run K T (tSeq (tAsg (tCall (SpD K T 2 F_dot) [] E0 (tCons (tVar 1) (tCons (tVar 3) tNil))) (gName 4)) (tIfS (tTest (tOp rNe (tVar 4) (tC (.int 0)))) ts tNext)) h (.ct e)) ∧ wipeE e [2, 3, 4] = argsO C (fdB B) .me [dV c] 8 := fun ts i l hl hz => by
    have lm := List.mem_of_getElem? hl
    refine ⟨_, _, tg_tup (tgs_cons (tg_name (by simp [argsO, args])) (tgs_cons (tg_name (by simp [argsO, args])) tgs_nil)) rfl, .inl (run_seq (run_set (dotv _ 1 3 l a rfl rfl (bo.bl l lm) (by omega)) (by simp [argsO, args])) (run_if (b := false) (et_eq (et_test (ev_op (ev_var (i := 4) rfl) (ev_int (i := 0)) op_neI)) (by simp [hz])) (fun q => by cases q) (fun _ => run_next))), rfl⟩
  cases hft : FM.findTurn c B.lines with
  | none =>
    have e : FM.turnLine c B = none := by unfold FM.turnLine; rw [hft]
    rw [e] at hres
    obtain ⟨rfl, rfl⟩ := hres
    refine run_seq (run_forT (ws := [2] ++ ([3] ++ [])) (ei_enum (ea_cons (ev_fld (i := 0) rfl rfl cB.c cB.l) ea_nil)) (fun _ => argsO C (fdB B) .me [dV c] 8) rfl [2, 3, 4] (fun i x hx => ?_)) (run_retO (i := 0) rfl ev_non)
    obtain ⟨l, hl, rfl⟩ := get_enum hx
    exact pass _ i l hl (FM.findTurn_none hft l (List.mem_of_getElem? hl))
  | some q =>
    obtain ⟨p, l, s⟩ := q
    obtain ⟨els, nz⟩ := FM.findTurn_some hft
    have e : FM.turnLine c B = some (FM.flipped c l, (p ++ s).map (FM.adj c (FM.dot c (FM.flipped c l)) (FM.flipped c l)), B.rays.map fun r => (FM.adj c (FM.dot c (FM.flipped c l)) (FM.flipped c l) r.1, r.2)) := by unfold FM.turnLine; rw [hft]
    rw [e] at hres
    obtain ⟨rfl, rfl⟩ := hres
    have lm : l ∈ B.lines := by rw [els]; simp
    have bl := bo.bl l lm
    have ll := bo.lenl l lm
    have fl : (FM.flipped c l).length = n ∧ Bd a (FM.flipped c l) := by
      unfold FM.flipped
      split
      · exact ⟨by rw [FM.neg_length, ll], bd_neg bl⟩
      · exact ⟨ll, bl⟩
    refine run_seqR (run_forTR (ws := [2] ++ ([3] ++ [])) (hm := [.obj C (fdB B) .me, .d (dV c), .d (.int (p.length : Nat)), .d (dV l), .un, .un, .un, .un, .un, .un]) (ei_enum (ea_cons (ev_fld (i := 0) rfl rfl cB.c cB.l) ea_nil)) (fun _ => argsO C (fdB B) .me [dV c] 8) rfl [2, 3, 4] p.length (x0 := .tuple [.int (p.length : Nat), dV l]) ?_ (fun i x hx hi => ?_) (tg_tup (tgs_cons (tg_name (by simp [argsO, args])) (tgs_cons (tg_name (by simp [argsO, args])) tgs_nil)) rfl) ?_)
    · rw [List.getElem?_map, List.getElem?_zipIdx, List.getElem?_map, els]
      simp
    · obtain ⟨x, hl, rfl⟩ := get_enum hx
      refine pass _ i x hl (findTurn_pre hft x ?_)
      rw [els, List.getElem?_append_left hi] at hl
      exact List.mem_of_getElem? hl
    · refine run_seq (run_set (dotv _ 1 3 l a rfl rfl bl (by omega)) (by simp)) ?_
      refine run_if (b := true) (et_eq (et_test (ev_op (ev_var (i := 4) rfl) (ev_int (i := 0)) op_neI)) (by simp [nz])) (fun _ => ?_) (fun q => by cases q)
      -- the sign
      have flip : Run K T (tIfS (tTest (tOp (rI0 fun i j => .bl (decide (i < j))) (tVar 4) (tC (.int 0)))) (tSeq (tAsg (tLc (iList K (tVar 3)) (gName 6) tYes (tUn (rU fun i => .int (-i)) (tVar 6)) [6]) (gName 3)) (tAsg (tUn (rU fun i => .int (-i)) (tVar 4)) (gName 4))) tNext) ([.obj C (fdB B) .me, .d (dV c), .d (.int (p.length : Nat)), .d (dV l), .d (.int (FM.dot c l)), .un, .un, .un, .un, .un])
          (.nx [.obj C (fdB B) .me, .d (dV c), .d (.int (p.length : Nat)), .d (dV (FM.flipped c l)), .d (.int (FM.dot c (FM.flipped c l))), .un, .un, .un, .un, .un]) := by
        unfold FM.flipped
        by_cases hneg : FM.dot c l < 0
        · rw [if_pos hneg, dot_neg_r]
          have em : dV (FM.neg l) = .list ((l.map PyData.int).map fun d => .int (- unI d)) := by
            unfold dV FM.neg; rw [List.map_map, List.map_map]; rfl
          rw [em]
          refine run_if (et_test (ev_op (ev_var (i := 4) rfl) (ev_int (i := 0)) op_ltI)) (fun _ => run_seq (run_set (en_map (K := K) (T := T) (ei_list (ev_var (i := 3) rfl)) (fun d => .int (- unI d)) (vs := [6]) (by simp) (fun x => [.obj C (fdB B) .me, .d (dV c), .d (.int (p.length : Nat)), .d (dV l), .d (.int (FM.dot c l)), .un, .d x, .un, .un, .un]) (by rw [List.length_map]; omega) (ws := [6]) (by simp) (fun x hx => tg_name (by simp [wipeE])) (fun x hx => ?_)).e (by simp)) (run_set (ev_neg (ev_var (i := 4) rfl)) (by simp))) (fun q => absurd q (by simpa using hneg))
          obtain ⟨z, _, rfl⟩ := List.mem_map.mp hx
          exact ev_neg (ev_var (i := 6) rfl)
        · rw [if_neg hneg]
          exact run_if (et_test (ev_op (ev_var (i := 4) rfl) (ev_int (i := 0)) op_ltI)) (fun q => absurd q (by simpa using hneg)) (fun _ => run_next)
      refine run_seq flip ?_
      generalize FM.flipped c l = fv at fl ⊢
      obtain ⟨lf, bf⟩ := fl
      have bval := dot_bd2 hc bf (by omega)
      have big : ∀ {k : Nat} {x : Int}, x.natAbs < 2 ^ k → k ≤ 8900 → x.natAbs < 2 ^ 400000 := fun {k x} h e => Nat.lt_of_lt_of_le h (Nat.pow_le_pow_right (by decide) (by omega))
      have mk : ∀ (env : En) (i b : Nat) (o : List Int), env[1]? = some (.d (dV c)) → env[3]? = some (.d (dV fv)) → env[4]? = some (.d (.int (FM.dot c fv))) → env[i]? = some (.d (dV o)) → Bd b o → o.length = n → m + a + b + 20 ≤ 8900 →
          EvE K T (tCall (SpD K T 1 F_primitive) [] E0 (tCons (tCall (SpD K T 4 F_combined) [] E0 (tCons (tVar 4) (tCons (tVar i) (tCons (tUn (rU fun i => .int (-i)) (tCall (SpD K T 2 F_dot) [] E0 (tCons (tVar 1) (tCons (tVar i) tNil)))) (tCons (tVar 3) tNil))))) tNil)) env (dV (FM.adj c (FM.dot c fv) fv o)) := fun env i b o e1 e3 e4 ei hb lo hk =>
        ev_call (ea_cons (ev_call (ea_cons (ev_var e4) (ea_cons (ev_var ei) (ea_cons (ev_neg (dotv env 1 i o b e1 ei hb (by omega))) (ea_cons (ev_var e3) ea_nil)))) ⟨FM.dot c fv, -FM.dot c o, o, fv, rfl, hb.mono (by omega), bf.mono (by omega), big bval (by omega), by rw [Int.natAbs_neg]; exact big (dot_bd2 hc hb (by omega)) (by omega), by omega, rfl⟩ rfl) ea_nil)
          ⟨_, rfl, (adj_ok hc bf hb lc lf lo h1000 hk).mono (by omega), by rw [FM.comb_length]; omega, rfl⟩ rfl
      have sl : p.length + 1 + s.length ≤ 1000 := by have := bo.cl; rw [els] at this; simp at this; omega
      refine run_seq (run_set (x := dVs (p ++ s)) (ev_eq (en_cat (en_slice (ev_fld (i := 0) rfl rfl cB.c cB.l) eo_none (eo_some (ev_var (i := 2) rfl))).e (en_slice (ev_fld (i := 0) rfl rfl cB.c cB.l) (eo_some (ev_eq (ev_op (ev_var (i := 2) rfl) (ev_int (i := 1)) op_add) (y := .int ((p.length + 1 : Nat) : Int)) (by simp))) eo_none).e ?_).e ?_) (by simp)) ?_
      · rw [← List.length_append, els, cut_out]
        simp; omega
      · rw [els, cut_out]; rfl
      have memb : ∀ o ∈ p ++ s, o ∈ B.lines := fun o ho => by rw [els]; rcases List.mem_append.mp ho with h | h <;> simp [h]
      refine run_seq (run_fld (x := dVs ((p ++ s).map (FM.adj c (FM.dot c fv) fv))) rfl (by simp) rfl (ev_eq (en_map (ei_list (ev_var (i := 5) rfl)) (fun d => dV (FM.adj c (FM.dot c fv) fv (unV d))) (vs := [7]) (by simp) (fun x => [.obj C (fdB B) .me, .d (dV c), .d (.int (p.length : Nat)), .d (dV fv), .d (.int (FM.dot c fv)), .d (dVs (p ++ s)), .un, .d x, .un, .un]) (by simp; omega) (ws := [7]) (by simp) (fun x hx => tg_name (by simp [wipeE])) (fun x hx => ?_)).e ?_) cB.c cB.l (by simp [fdB])) ?_
      · obtain ⟨o, ho, rfl⟩ := List.mem_map.mp hx
        rw [unV_dV]
        exact mk _ 7 a o rfl rfl rfl rfl (bo.bl o (memb o ho)) (bo.lenl o (memb o ho)) (by omega)
      · unfold dVs
        rw [List.map_map, List.map_map]
        congr 1
        exact List.map_congr_left fun o _ => by simp
      refine run_seq (run_fld (fd := [("lines", some (dVs ((p ++ s).map (FM.adj c (FM.dot c fv) fv)))), ("rays", some (dRays B.rays)), ("count", some (.int (B.count : Nat)))]) (x := dRays (B.rays.map fun r => (FM.adj c (FM.dot c fv) fv r.1, r.2))) rfl (by simp) rfl (ev_eq (en_map (ei_list (ev_fld (i := 0) rfl rfl cB.c cB.r)) (fun d => dRay (FM.adj c (FM.dot c fv) fv (unR d).1, (unR d).2)) (vs := [8, 9]) (by simp)
        (fun x => [.obj C [("lines", some (dVs ((p ++ s).map (FM.adj c (FM.dot c fv) fv)))), ("rays", some (dRays B.rays)), ("count", some (.int (B.count : Nat)))] .me, .d (dV c), .d (.int (p.length : Nat)), .d (dV fv), .d (.int (FM.dot c fv)), .d (dVs (p ++ s)), .un, .un, .d (dV (unR x).1), .d (.int ((unR x).2 : Nat))]) (by have := bo.cr; simp; omega) (ws := [8, 9]) (by simp) (fun x hx => ?_) (fun x hx => ?_)).e ?_) cB.c cB.r (by simp)) (run_retO (i := 0) rfl (ev_var (i := 3) rfl))
      · obtain ⟨r, hr, rfl⟩ := List.mem_map.mp hx
        rw [unR_dRay]
        exact tg_tup (tgs_cons (tg_name (by simp [wipeE])) (tgs_cons (tg_name (by simp [wipeE])) tgs_nil)) rfl
      · obtain ⟨r, hr, rfl⟩ := List.mem_map.mp hx
        rw [unR_dRay]
        exact ev_tup (ea_cons (mk _ 8 b r.1 rfl rfl rfl rfl (bo.br r hr) (bo.lenr r hr) (by omega)) (ea_cons (ev_var (i := 9) rfl) ea_nil)) (by simp)
      · unfold dRays
        rw [List.map_map, List.map_map]
        congr 1
        exact List.map_congr_left fun o _ => by simp
theorem first_no {α : Type} (p : α → Bool) : ∀ R : List α, R.all p = true ∨ ∃ (m : Nat) (x : α), R[m]? = some x ∧ p x = false ∧ ∀ (i : Nat) (y : α), i < m → R[i]? = some y → p y = true
  | [] => .inl rfl
  | a :: R => by
    by_cases h : p a = true
    · rcases first_no p R with e | ⟨m, x, h1, h2, h3⟩
      · exact .inl (by rw [List.all_cons, h, e]; rfl)
      · refine .inr ⟨m + 1, x, by simpa using h1, h2, fun i y hi hy => ?_⟩
        cases i with
        | zero => simp at hy; subst hy; exact h
        | succ i => exact h3 i y (by omega) (by simpa using hy)
    · exact .inr ⟨0, a, rfl, by simpa using h, fun i y hi => absurd hi (by omega)⟩
abbrev n_Builder_are_neighbours : List Str := ["self", "one", "other", "shared", "ray", "mask"]
theorem sc_Builder_are_neighbours : FnScope n_Builder_are_neighbours ["self", "one", "other", "shared"] (defScope (inClass (top 15) 4)) := ⟨rfl, rfl, rfl, by decide +kernel, rfl, by decide +kernel, by decide +kernel⟩
def F_are (fd : Fd) (ds : List PyData) (r : PyData) : Prop := ∃ (R : List (List Int × Nat)) (one other : List Int) (sh : Nat), fd.lookup ("rays" : Str) = some (some (dRays R)) ∧ ds = [dV one, dV other, .int (sh : Nat)] ∧ r = .bool (FM.areNb R one other sh)
theorem D_are (h : HasM K C "are_neighbours" "Builder.are_neighbours" (inClass (top 15) 4)) (cB : ClsB K C) : Mn P w K mg base 1 C "are_neighbours" ["self", "one", "other", "shared"] (SpO K T C 3 F_are) := by
  have nd := sc_Builder_are_neighbours.nd
  refine mkO (m := 2) h sc_Builder_are_neighbours rfl rfl (fun _ _ _ _ _ _ us hl => match us, hl with | [_, _, _, _], _ => rfl) fun f cdv A outer s H E hr => ⟨_, pss_cons (ps_for PassesOwn.never rfl (pi_list (pe_fld (pv 0) rfl)) (pg_tup rfl (pgs_cons (pg_name (i := 4) nd rfl (Or.inl rfl)) (pgs_cons (pg_name (i := 5) nd rfl (Or.inl rfl)) pgs_nil))) (pss_one (ps_if (PW.pt (pw_and (pt_cmpR op_eq (pe_op op_and (pv 5) (pv 3)) (pv 3) (nomark _)) (pw_and (pt_cmpR (op_neD (hu64 hr)) (pv 4) (pv 1) (nomark _)) (pw_and1 (pt_cmpR (op_neD (hu64 hr)) (pv 4) (pv 2) (nomark _)))))) (pss_one (ps_ret (pe_bl))) (pss_nil)))) (pss_one (ps_ret (pe_bl))), ?_⟩
  rintro fd ds r ⟨R, one, other, sh, hfd, rfl, rfl⟩ _
  have tst : ∀ (x : List Int × Nat), EvT K T (tAnd (tTest (tOp rEq (tOp (rI0 fun i j => .int (Builtin.bitAnd i j)) (tVar 5) (tVar 3)) (tVar 3))) (tAnd (tTest (tOp (rNeD K) (tVar 4) (tVar 1))) (tTest (tOp (rNeD K) (tVar 4) (tVar 2))))) [.obj C fd .rd, .d (dV one), .d (dV other), .d (.int (sh : Nat)), .d (dV x.1), .d (.int (x.2 : Nat))] ((x.2 &&& sh == sh) && (x.1 != one) && (x.1 != other)) := fun x => by
    refine et_eq (et_and (et_test (ev_op (ev_op (ev_var (i := 5) rfl) (ev_var (i := 3) rfl) op_andI) (ev_var (i := 3) rfl) op_eqI)) fun _ => et_and (et_test (ev_op (ev_var (i := 4) rfl) (ev_var (i := 1) rfl) (op_neDat (shaped_dV _) (shaped_dV _)))) fun _ => et_test (ev_op (ev_var (i := 4) rfl) (ev_var (i := 2) rfl) (op_neDat (shaped_dV _) (shaped_dV _)))) ?_
    rw [band_nat, eqv_dV, eqv_dV, Bool.and_assoc]
    have e1 : decide (((x.2 &&& sh : Nat) : Int) = (sh : Int)) = (x.2 &&& sh == sh) := by
      by_cases q : x.2 &&& sh = sh
      · rw [q]; simp
      · have : ¬ ((x.2 &&& sh : Nat) : Int) = (sh : Int) := by omega
        simp [q, this]
    rw [e1]
    congr 2
    · by_cases q : x.1 = one <;> simp [q]
    · by_cases q : x.1 = other <;> simp [q]
  have hi : EvI K T (iList K (tFld K (tVar 0) "rays")) (argsO C fd .rd [dV one, dV other, .int (sh : Nat)] 2) (R.map dRay) := ei_list (ev_fld (i := 0) rfl hfd cB.c cB.r)
  have tg : ∀ x : List Int × Nat, TgE K T (gTup K 2 (gCons (gName 4) (gCons (gName 5) gNil))) (argsO C fd .rd [dV one, dV other, .int (sh : Nat)] 2) (dRay x) [.obj C fd .rd, .d (dV one), .d (dV other), .d (.int (sh : Nat)), .d (dV x.1), .d (.int (x.2 : Nat))] ([4] ++ ([5] ++ [])) := fun x =>
    tg_tup (tgs_cons (tg_name (by simp [argsO, args])) (tgs_cons (tg_name (by simp [argsO, args])) tgs_nil)) rfl
  rcases first_no (fun x : List Int × Nat => !((x.2 &&& sh == sh) && (x.1 != one) && (x.1 != other))) R with all | ⟨m, x, hm, bad, good⟩
  · have e : FM.areNb R one other sh = true := all
    rw [e]
    refine run_seq (run_forT (ws := [4] ++ ([5] ++ [])) hi (fun _ => argsO C fd .rd [dV one, dV other, .int (sh : Nat)] 2) rfl [4, 5] (fun i x hx => ?_)) (run_ret ev_bl)
    obtain ⟨k, hk, rfl⟩ := get_dRays hx
    have := List.all_eq_true.mp all k (List.mem_of_getElem? hk)
    refine ⟨_, _, tg k, .inl (run_if (tst k) (fun q => ?_) (fun _ => run_next)), rfl⟩
    rw [q] at this; cases this
  · have e : FM.areNb R one other sh = false := by
      unfold FM.areNb
      rw [List.all_eq_false]
      exact ⟨x, List.mem_of_getElem? hm, by rw [bad]; simp⟩
    rw [e]
    refine run_seqR (run_forTR (ws := [4] ++ ([5] ++ [])) hi (fun _ => argsO C fd .rd [dV one, dV other, .int (sh : Nat)] 2) rfl [4, 5] m (x0 := dRay x) (by rw [List.getElem?_map, hm]; rfl) (fun i y hy hi => ?_) (tg x) ?_)
    · obtain ⟨k, hk, rfl⟩ := get_dRays hy
      have := good i k hi hk
      refine ⟨_, _, tg k, .inl (run_if (tst k) (fun q => ?_) (fun _ => run_next)), rfl⟩
      rw [q] at this; cases this
    · refine run_if (tst x) (fun _ => run_ret ev_bl) (fun q => ?_)
      rw [q] at bad; cases bad
end FD
end
section
set_option Elab.async false
set_option linter.all false
set_option maxRecDepth 100000
set_option maxHeartbeats 4000000
/-! Builder: joined, add -/
namespace FD
open PySem PySem.Spec PyProof.Rows L2 LamX FW FT
variable {P : Program} {w : World} {K : PySem.W.Frag} {mg : Str → Option Value} {base : Heap} {T : List (Addr × Str)} {C : Addr}
def dTri (p : List Int × Nat × Int) : PyData := .tuple [dV p.1, .int (p.2.1 : Nat), .int p.2.2]
def dTris (ps : List (List Int × Nat × Int)) : PyData := .list (ps.map dTri)
theorem get_dTris {R : List (List Int × Nat × Int)} {i : Nat} {x : PyData} (h : (R.map dTri)[i]? = some x) : ∃ k, R[i]? = some k ∧ x = dTri k := by
  rw [List.getElem?_map, Option.map_eq_some_iff] at h
  obtain ⟨k, hk, rfl⟩ := h
  exact ⟨k, hk, rfl⟩
/-- one pair's offer -/
def offer (R : List (List Int × Nat)) (bit : Nat) (p q : List Int × Nat × Int) : Option (List Int × Nat) :=
  if FM.areNb R p.1 q.1 (p.2.1 &&& q.2.1) then some (FM.primitive (FM.comb p.2.2 q.1 (-q.2.2) p.1), (p.2.1 &&& q.2.1) ||| bit) else none
theorem joined_offer (R : List (List Int × Nat)) (pos neg : List (List Int × Nat × Int)) (bit : Nat) : FM.joined R pos neg bit = pos.flatMap fun p => neg.filterMap (offer R bit p) := rfl
abbrev n_Builder_joined : List Str := ["self", "positive", "negative", "bit", "fresh", "one", "mask", "value", "other", "opposite", "below", "shared", "ray"]
theorem sc_Builder_joined : FnScope n_Builder_joined ["self", "positive", "negative", "bit"] (defScope (inClass (top 15) 3)) := ⟨rfl, rfl, rfl, by decide +kernel, rfl, by decide +kernel, by decide +kernel⟩
def F_joined (fd : Fd) (ds : List PyData) (r : PyData) : Prop := ∃ (R : List (List Int × Nat)) (pos neg : List (List Int × Nat × Int)) (bit n b v : Nat), fd.lookup ("rays" : Str) = some (some (dRays R)) ∧ fd.lookup ("are_neighbours" : Str) = none ∧ ds = [dTris pos, dTris neg, .int (bit : Nat)] ∧ n ≤ 1000 ∧ v + b + 12 ≤ 8900 ∧
  (∀ p ∈ pos ++ neg, p.1.length = n ∧ Bd b p.1 ∧ p.2.2.natAbs < 2 ^ v) ∧ pos.length * neg.length ≤ 90000 ∧ r = dRays (FM.joined R pos neg bit)
theorem fm_len {R : List (List Int × Nat)} {bit : Nat} {p : List Int × Nat × Int} (l : List (List Int × Nat × Int)) : (l.filterMap (offer R bit p)).length ≤ l.length := List.length_filterMap_le _ _
theorem fl_len {R : List (List Int × Nat)} {bit : Nat} {neg : List (List Int × Nat × Int)} : ∀ pos : List (List Int × Nat × Int), (pos.flatMap fun p => neg.filterMap (offer R bit p)).length ≤ pos.length * neg.length
  | [] => by simp
  | p :: pos => by
    have h1 := fm_len (R := R) (bit := bit) (p := p) neg
    have h2 := fl_len (R := R) (bit := bit) (neg := neg) pos
    rw [List.flatMap_cons, List.length_append, List.length_cons, Nat.succ_mul]
    omega
theorem D_joined (h : HasM K C "joined" "Builder.joined" (inClass (top 15) 3)) (cB : ClsB K C) (d1 : Dn P w K mg base 2 "primitive" ["vector"] (SpD K T 1 F_primitive)) (d2 : Dn P w K mg base 1 "combined" ["first", "vector", "second", "other"] (SpD K T 4 F_combined)) (d3 : Mn P w K mg base 1 C "are_neighbours" ["self", "one", "other", "shared"] (SpO K T C 3 F_are)) : Mn P w K mg base 3 C "joined" ["self", "positive", "negative", "bit"] (SpO K T C 3 F_joined) := by
  have nd := sc_Builder_joined.nd
  obtain ⟨_, _, G_primitive, m_primitive, k_primitive, b_primitive⟩ := d1
  obtain ⟨_, _, G_combined, m_combined, k_combined, b_combined⟩ := d2
  obtain ⟨_, _, G_are_neighbours, mt_are_neighbours, b_are_neighbours⟩ := d3
  obtain ⟨cB, cl, cr, cn⟩ := cB
  refine mkO (m := 9) h sc_Builder_joined rfl rfl (fun _ _ _ _ _ _ us hl => match us, hl with | [_, _, _, _], _ => rfl) fun f cdv A outer s H E hr => ⟨_, pss_cons (ps_set (i := 4) nd rfl (Or.inl rfl) (pe_lst pa_nil)) (pss_cons (ps_for PassesOwn.never rfl (pi_list (pv 1)) (pg_tup rfl (pgs_cons (pg_name (i := 5) nd rfl (Or.inl rfl)) (pgs_cons (pg_name (i := 6) nd rfl (Or.inl rfl)) (pgs_cons (pg_name (i := 7) nd rfl (Or.inl rfl)) pgs_nil)))) (pss_one (ps_for PassesOwn.never rfl (pi_list (pv 2)) (pg_tup rfl (pgs_cons (pg_name (i := 8) nd rfl (Or.inl rfl)) (pgs_cons (pg_name (i := 9) nd rfl (Or.inl rfl)) (pgs_cons (pg_name (i := 10) nd rfl (Or.inl rfl)) pgs_nil)))) (pss_cons (ps_set (i := 11) nd rfl (Or.inl rfl) (pe_op op_and (pv 6) (pv 9))) (pss_one (ps_if (pt_val (pe_meth (pv 0) cB mt_are_neighbours G_are_neighbours (hr.mono (by decide)) b_are_neighbours .nil pass0 (pa_cons (pv 5) (pa_cons (pv 8) (pa_cons (pv 11) pa_nil))))) (pss_cons (ps_set (i := 12) nd rfl (Or.inl rfl) (pe_call G_primitive (hr.mono (by decide)) (by rfl) m_primitive k_primitive b_primitive .nil pass0 (pa_cons (pe_call G_combined (hr.mono (by decide)) (by rfl) m_combined k_combined b_combined .nil pass0 (pa_cons (pv 7) (pa_cons (pv 8) (pa_cons (pe_un un_neg (pv 10)) (pa_cons (pv 5) pa_nil))))) pa_nil))) (pss_one (ps_expr (pe_bm PySem.F.plainAttrs_list PySem.F.slot_list_append PySem.F.type_list_append mt_append (pv 4) (pa_cons (pe_tup (pa_cons (pv 12) (pa_cons (pe_op op_or (pv 11) (pv 3)) pa_nil))) pa_nil))))) (pss_nil))))))) (pss_one (ps_ret (pv 4)))), ?_⟩
  rintro fd ds r ⟨R, pos, neg, bit, n, b, v, hfd, hno, rfl, hn, hv, hall, hsz, rfl⟩ _
  rw [joined_offer]
  let J : Nat → List (List Int × Nat) := fun i => (pos.take i).flatMap fun p => neg.filterMap (offer R bit p)
  have en : Nat → En := fun i => []
  refine run_seq (run_setN (en_lst ea_nil (by simp)) (by simp [argsO, args])) ?_
  refine run_seq (run_forT (ws := [5] ++ ([6] ++ ([7] ++ []))) (ei_list (ev_var (i := 1) rfl)) (fun i => [.obj C fd .rd, .d (dTris pos), .d (dTris neg), .d (.int (bit : Nat)), .own ((J i).map dRay), .un, .un, .un, .un, .un, .un, .un, .un]) rfl [5, 6, 7] (fun i x hx => ?_)) ?_
  · obtain ⟨p, hp, rfl⟩ := get_dTris hx
    have pm := List.mem_of_getElem? hp
    have hi := (List.getElem?_eq_some_iff.mp hp).1
    obtain ⟨lp, bp, vp⟩ := hall p (by simp [pm])
    have eJ : J (i + 1) = J i ++ neg.filterMap (offer R bit p) := by
      show (pos.take (i + 1)).flatMap _ = _
      rw [List.take_add_one, hp, List.flatMap_append]; simp [J]
    have lJ : (J i).length ≤ i * neg.length := by
      have := fl_len (R := R) (bit := bit) (neg := neg) (pos.take i)
      rw [List.length_take] at this
      exact Nat.le_trans this (Nat.mul_le_mul_right _ (Nat.min_le_left _ _))
    have lJ2 : (i + 1) * neg.length ≤ pos.length * neg.length := Nat.mul_le_mul_right _ hi
    rw [Nat.succ_mul] at lJ2
    refine ⟨_, _, tg_tup (tgs_cons (tg_name (by simp)) (tgs_cons (tg_name (by simp)) (tgs_cons (tg_name (by simp)) tgs_nil))) rfl, .inl (run_forT (ws := [8] ++ ([9] ++ ([10] ++ []))) (ei_list (ev_var (i := 2) rfl))
      (fun j => [.obj C fd .rd, .d (dTris pos), .d (dTris neg), .d (.int (bit : Nat)), .own ((J i ++ (neg.take j).filterMap (offer R bit p)).map dRay), .d (dV p.1), .d (.int (p.2.1 : Nat)), .d (.int p.2.2), .un, .un, .un, .un, .un]) (by simp) [8, 9, 10, 11, 12] (fun j y hy => ?_)), ?_⟩
    · obtain ⟨q, hq, rfl⟩ := get_dTris hy
      have qm := List.mem_of_getElem? hq
      have hj := (List.getElem?_eq_some_iff.mp hq).1
      obtain ⟨lq, bq, vq⟩ := hall q (by simp [qm])
      have e2 : (neg.take (j + 1)).filterMap (offer R bit p) = (neg.take j).filterMap (offer R bit p) ++ (offer R bit p q).toList := by
        rw [List.take_add_one, hq, List.filterMap_append]
        congr 1
      have sh : EvE K T (tOp (rI0 fun i j => .int (Builtin.bitAnd i j)) (tVar 6) (tVar 9)) [.obj C fd .rd, .d (dTris pos), .d (dTris neg), .d (.int (bit : Nat)), .own ((J i ++ (neg.take j).filterMap (offer R bit p)).map dRay), .d (dV p.1), .d (.int (p.2.1 : Nat)), .d (.int p.2.2), .d (dV q.1), .d (.int (q.2.1 : Nat)), .d (.int q.2.2), .un, .un] (.int ((p.2.1 &&& q.2.1 : Nat) : Int)) :=
        ev_eq (ev_op (ev_var (i := 6) rfl) (ev_var (i := 9) rfl) op_andI) (by rw [band_nat])
      have lj : ((neg.take j).filterMap (offer R bit p)).length ≤ j := by
        have := fm_len (R := R) (bit := bit) (p := p) (neg.take j)
        rw [List.length_take] at this
        omega
      by_cases nb : FM.areNb R p.1 q.1 (p.2.1 &&& q.2.1) = true
      · have eo : offer R bit p q = some (FM.primitive (FM.comb p.2.2 q.1 (-q.2.2) p.1), (p.2.1 &&& q.2.1) ||| bit) := if_pos nb
        refine ⟨_, _, tg_tup (tgs_cons (tg_name (by simp)) (tgs_cons (tg_name (by simp)) (tgs_cons (tg_name (by simp)) tgs_nil))) rfl, .inl (run_seq (run_set sh (by simp)) (run_if (b := true) (et_eq (et_B (ev_methO (i := 0) rfl hno (ea_cons (ev_var rfl) (ea_cons (ev_var rfl) (ea_cons (ev_var rfl) ea_nil))) ⟨R, p.1, q.1, p.2.1 &&& q.2.1, hfd, rfl, rfl⟩ rfl)) nb) (fun _ => run_seq (run_set (ev_call (ea_cons (ev_call (ea_cons (ev_var (i := 7) rfl) (ea_cons (ev_var (i := 8) rfl) (ea_cons (ev_neg (ev_var (i := 10) rfl)) (ea_cons (ev_var (i := 5) rfl) ea_nil))))
            ⟨p.2.2, -q.2.2, q.1, p.1, rfl, bq.mono (by omega), bp.mono (by omega), Nat.lt_of_lt_of_le vp (Nat.pow_le_pow_right (by decide) (by omega)), by rw [Int.natAbs_neg]; exact Nat.lt_of_lt_of_le vq (Nat.pow_le_pow_right (by decide) (by omega)), by omega, rfl⟩ rfl) ea_nil)
          ⟨_, rfl, (comb_bd (n := v + b) vp (by rw [Int.natAbs_neg]; exact vq) bq bp (by omega) (by omega)).mono (by omega), by rw [FM.comb_length]; omega, rfl⟩ rfl) (by simp))
          (run_app rfl (ev_tup (ea_cons (ev_var (i := 12) rfl) (ea_cons (ev_eq (ev_op (ev_var (i := 11) rfl) (ev_var (i := 3) rfl) op_orI) (by rw [bor_nat])) ea_nil)) (by simp)) (by simp; omega))) (fun q => by cases q))), ?_⟩
        rw [e2, eo]
        simp [wipeE, dRay]
      · have eo : offer R bit p q = none := if_neg nb
        refine ⟨_, _, tg_tup (tgs_cons (tg_name (by simp)) (tgs_cons (tg_name (by simp)) (tgs_cons (tg_name (by simp)) tgs_nil))) rfl, .inl (run_seq (run_set sh (by simp)) (run_if (b := false) (et_eq (et_B (ev_methO (i := 0) rfl hno (ea_cons (ev_var rfl) (ea_cons (ev_var rfl) (ea_cons (ev_var rfl) ea_nil))) ⟨R, p.1, q.1, p.2.1 &&& q.2.1, hfd, rfl, rfl⟩ rfl)) (by simpa using nb)) (fun q => by cases q) (fun _ => run_next))), ?_⟩
        rw [e2, eo]
        simp [wipeE]
    · rw [eJ]
      simp [wipeE]
  · refine run_freeze (i := 4) rfl ?_
    refine run_ret (ev_eq (ev_var (i := 4) rfl) ?_)
    simp [J, dRays]
theorem op_rAdd {i j : Int} : OpD K T rAdd (.int i) (.int j) (.int (i + j)) := fun Av H v u _ t dv du Q q => by
  cases dv; cases du
  exact ⟨i, j, rfl, rfl, q _ H (ExtN.refl H) t (.int _)⟩
def unT : PyData → List Int × Nat × Int
  | .tuple [v, .int i, .int j] => (unV v, i.toNat, j)
  | _ => ([], 0, 0)
@[simp] theorem unT_dTri (r : List Int × Nat × Int) : unT (dTri r) = r := by unfold unT dTri; simp
theorem pos_take {c : List Int} {R : List (List Int × Nat)} {i : Nat} {x : List Int × Nat} (h : R[i]? = some x) : FM.posOf c (R.take (i + 1)) = FM.posOf c (R.take i) ++ (if 0 < FM.dot c x.1 then [(x.1, x.2, FM.dot c x.1)] else []) := by
  unfold FM.posOf
  rw [List.take_add_one, h, List.filter_append, List.map_append]
  congr 1
  by_cases q : 0 < FM.dot c x.1 <;> simp [q]
theorem neg_take {c : List Int} {R : List (List Int × Nat)} {i : Nat} {x : List Int × Nat} (h : R[i]? = some x) : FM.negOf c (R.take (i + 1)) = FM.negOf c (R.take i) ++ (if FM.dot c x.1 < 0 then [(x.1, x.2, FM.dot c x.1)] else []) := by
  unfold FM.negOf
  rw [List.take_add_one, h, List.filter_append, List.map_append]
  congr 1
  by_cases q : FM.dot c x.1 < 0 <;> simp [q]
theorem kept_take {c : List Int} {bit : Nat} {R : List (List Int × Nat)} {i : Nat} {x : List Int × Nat} (h : R[i]? = some x) : FM.keptOf c bit (R.take (i + 1)) = FM.keptOf c bit (R.take i) ++ (if FM.dot c x.1 = 0 then [(x.1, x.2 ||| bit)] else []) := by
  unfold FM.keptOf
  rw [List.take_add_one, h, List.filter_append, List.map_append]
  congr 1
  by_cases q : FM.dot c x.1 = 0 <;> simp [q]
theorem pos_len (c : List Int) (R : List (List Int × Nat)) : (FM.posOf c R).length ≤ R.length := by unfold FM.posOf; rw [List.length_map]; exact List.length_filter_le _ _
theorem neg_len (c : List Int) (R : List (List Int × Nat)) : (FM.negOf c R).length ≤ R.length := by unfold FM.negOf; rw [List.length_map]; exact List.length_filter_le _ _
theorem kept_len (c : List Int) (bit : Nat) (R : List (List Int × Nat)) : (FM.keptOf c bit R).length ≤ R.length := by unfold FM.keptOf; rw [List.length_map]; exact List.length_filter_le _ _
abbrev n_Builder_add : List Str := ["self", "condition", "exact", "line", "bit", "positive", "negative", "kept", "ray", "mask", "value", "fresh", "_"]
theorem sc_Builder_add : FnScope n_Builder_add ["self", "condition", "exact"] (defScope (inClass (top 15) 2)) := ⟨rfl, rfl, rfl, by decide +kernel, rfl, by decide +kernel, by decide +kernel⟩
def F_add (fd : Fd) (ds : List PyData) (fd' : Fd) (r : PyData) : Prop := ∃ (n a b m : Nat) (B : FM.Bld) (c : List Int) (ex : Bool), fd = fdB B ∧ ds = [dV c, .bool ex] ∧ BOk n a b B ∧ c.length = n ∧ Bd m c ∧ 2 * a + m + 20 ≤ 8900 ∧ m + a + b + 20 ≤ 8900 ∧ m + 2 * b + 40 ≤ 8900 ∧ fd' = fdB (FM.add c ex B) ∧ r = .none
theorem D_add (h : HasM K C "add" "Builder.add" (inClass (top 15) 2)) (cB : ClsB K C) (d1 : Mn P w K mg base 3 C "turn_line" ["self", "condition"] (SpM K T C 1 F_turn_line)) (d2 : Mn P w K mg base 3 C "joined" ["self", "positive", "negative", "bit"] (SpO K T C 3 F_joined)) (d3 : Dn P w K mg base 1 "dot" ["first", "second"] (SpD K T 2 F_dot)) : Mn P w K mg base 4 C "add" ["self", "condition", "exact"] (SpM K T C 2 F_add) := by
  have nd := sc_Builder_add.nd
  obtain ⟨_, _, G_turn_line, mt_turn_line, b_turn_line⟩ := d1
  obtain ⟨_, _, G_joined, mt_joined, b_joined⟩ := d2
  obtain ⟨_, _, G_dot, m_dot, k_dot, b_dot⟩ := d3
  obtain ⟨cB, cl, cr, cn⟩ := cB
  refine mkM (m := 10) h sc_Builder_add rfl rfl (fun _ _ _ _ _ _ us hl => match us, hl with | [_, _, _], _ => rfl) fun f cdv A outer s H E hr => ⟨_, pss_cons (ps_set (i := 3) nd rfl (Or.inl rfl) (pe_meth (pv 0) cB mt_turn_line G_turn_line (hr.mono (by decide)) b_turn_line .nil pass0 (pa_cons (pv 1) pa_nil))) (pss_cons (ps_set (i := 4) nd rfl (Or.inr rfl) (pe_op op_shl (pe_int) (pe_fld (pv 0) rfl))) (pss_cons (ps_fldaug (pv 0) (pe_int) in_add) (pss_cons (ps_if (pt_cmp (pc_notN (pv 3)) rfl) (pss_cons (ps_fld (pv 0) (pe_lc (own := [("ray", 8), ("mask", 9)]) rfl nd (pi_list (pe_fld (pv 0) rfl)) (blkOk_by (own := [("ray", 8), ("mask", 9)]) (N := n_Builder_add) (sc := defScope (inClass (top 15) 2)) (by decide +kernel)) (fun _ _ _ _ _ => pg_tupK (K := K) (n := 2) rfl rfl (pgs_cons (pg_name (i := 8) nd rfl (Or.inl rfl)) (pgs_cons (pg_name (i := 9) nd rfl (Or.inl rfl)) pgs_nil))) (fun _ _ _ _ _ => pts_nil) (fun _ _ _ _ _ => pe_tup (pa_cons (pv 8) (pa_cons (pe_op op_or (pv 9) (pv 4)) pa_nil)))) rfl) (pss_cons (ps_if (pt_not (pt_val (pv 2))) (pss_one (ps_expr (pe_bm PySem.F.plainAttrs_list PySem.F.slot_list_append PySem.F.type_list_append mt_append (pe_fld (pv 0) rfl) (pa_cons (pe_tup (pa_cons (pv 3) (pa_cons (pe_op op_sub (pv 4) (pe_int)) pa_nil))) pa_nil)))) (pss_nil)) (pss_one (ps_retN)))) (pss_nil)) (pss_cons (ps_set (i := 5) nd rfl (Or.inl rfl) (pe_lst pa_nil)) (pss_cons (ps_set (i := 6) nd rfl (Or.inl rfl) (pe_lst pa_nil)) (pss_cons (ps_set (i := 7) nd rfl (Or.inl rfl) (pe_lst pa_nil)) (pss_cons (ps_for PassesOwn.never rfl (pi_list (pe_fld (pv 0) rfl)) (pg_tup rfl (pgs_cons (pg_name (i := 8) nd rfl (Or.inl rfl)) (pgs_cons (pg_name (i := 9) nd rfl (Or.inl rfl)) pgs_nil))) (pss_cons (ps_set (i := 10) nd rfl (Or.inl rfl) (pe_call G_dot (hr.mono (by decide)) (by rfl) m_dot k_dot b_dot .nil pass0 (pa_cons (pv 1) (pa_cons (pv 8) pa_nil)))) (pss_one (ps_if (pt_cmpR op_eq (pv 10) (pe_int) (nomark _)) (pss_one (ps_expr (pe_bm PySem.F.plainAttrs_list PySem.F.slot_list_append PySem.F.type_list_append mt_append (pv 7) (pa_cons (pe_tup (pa_cons (pv 8) (pa_cons (pe_op op_or (pv 9) (pv 4)) pa_nil))) pa_nil)))) (pss_one (ps_if (pt_cmpR op_gt (pv 10) (pe_int) (nomark _)) (pss_one (ps_expr (pe_bm PySem.F.plainAttrs_list PySem.F.slot_list_append PySem.F.type_list_append mt_append (pv 5) (pa_cons (pe_tup (pa_cons (pv 8) (pa_cons (pv 9) (pa_cons (pv 10) pa_nil)))) pa_nil)))) (pss_one (ps_expr (pe_bm PySem.F.plainAttrs_list PySem.F.slot_list_append PySem.F.type_list_append mt_append (pv 6) (pa_cons (pe_tup (pa_cons (pv 8) (pa_cons (pv 9) (pa_cons (pv 10) pa_nil)))) pa_nil)))))))))) (pss_cons (ps_set (i := 11) nd rfl (Or.inl rfl) (pe_meth (pv 0) cB mt_joined G_joined (hr.mono (by decide)) b_joined .nil pass0 (pa_cons (pv 5) (pa_cons (pv 6) (pa_cons (pv 4) pa_nil))))) (pss_cons (ps_if (pt_not (pt_val (pv 2))) (pss_one (ps_set (i := 7) nd rfl (Or.inl rfl) (pe_op op_cat (pv 7) (pe_lc (own := [("ray", 8), ("mask", 9), ("_", 12)]) rfl nd (pi_list (pv 5)) (blkOk_by (own := [("ray", 8), ("mask", 9), ("_", 12)]) (N := n_Builder_add) (sc := defScope (inClass (top 15) 2)) (by decide +kernel)) (fun _ _ _ _ _ => pg_tupK (K := K) (n := 3) rfl rfl (pgs_cons (pg_name (i := 8) nd rfl (Or.inl rfl)) (pgs_cons (pg_name (i := 9) nd rfl (Or.inl rfl)) (pgs_cons (pg_name (i := 12) nd rfl (Or.inl rfl)) pgs_nil)))) (fun _ _ _ _ _ => pts_nil) (fun _ _ _ _ _ => pe_tup (pa_cons (pv 8) (pa_cons (pv 9) pa_nil))))))) (pss_nil)) (pss_one (ps_fld (pv 0) (pe_op op_cat (pv 7) (pv 11)) rfl))))))))))), ?_⟩
  rintro fd ds fd' r ⟨n, a, b, m, B, c, ex, rfl, rfl, bo, lc, hc, h2, h3, h4, rfl, rfl⟩ _
  have shl : ∀ (env : En) (fd : Fd) (k : Nat), env[0]? = some (.obj C fd .me) → fd.lookup ("count" : Str) = some (some (.int (k : Nat))) → k ≤ 1000 → EvE K T (tOp (rI CPow fun i j => .int (i * 2 ^ j.toNat)) (tC (.int 1)) (tFld K (tVar 0) "count")) env (.int ((2 ^ k : Nat) : Int)) := fun env fd k h1 h2 h3 =>
    ev_eq (ev_op (ev_int (i := 1)) (ev_fld h1 h2 cB cn) (op_shlI ⟨by omega, by omega, by decide⟩)) (by simp)
  have hcc := bo.cc
  cases ht : FM.turnLine c B with
  | some q =>
    obtain ⟨l, ls, rs⟩ := q
    have hadd : FM.add c ex B = ⟨ls, (rs.map fun r => (r.1, r.2 ||| 2 ^ B.count)) ++ (if ex then [] else [(l, 2 ^ B.count - 1)]), B.count + 1⟩ := by unfold FM.add; rw [ht]
    have lrs : rs.length ≤ 300 := by
      have := bo.cr
      unfold FM.turnLine at ht
      split at ht
      · cases ht
      · simp only [Option.some.injEq, Prod.mk.injEq] at ht
        obtain ⟨_, _, rfl⟩ := ht
        simpa using this
    refine .inl ?_
    rw [hadd]
    refine run_seq (run_setM (i := 0) (fd' := fdB ⟨ls, rs, B.count⟩) (r := dV l) rfl (by simp) rfl rfl (ea_cons (ev_var (i := 1) rfl) ea_nil) ⟨n, a, b, m, B, c, rfl, rfl, bo, lc, hc, h2, h3, by rw [ht]; exact ⟨rfl, rfl⟩⟩ rfl (by simp [argsO, args])) ?_
    refine run_seq (run_set (shl _ (fdB ⟨ls, rs, B.count⟩) B.count rfl rfl hcc) (by simp [argsO, args])) ?_
    refine run_seq (run_aug (i := 0) (fd := fdB ⟨ls, rs, B.count⟩) rfl (by simp) rfl rfl (ev_int (i := 1)) op_rAdd cB cn (by simp [fdB])) ?_
    refine run_seqR (run_if (b := true) (et_test (ev_notN (ev_var (i := 3) (x := dV l) rfl) rfl)) (fun _ => ?_) (fun q => by cases q))
    refine run_fldApp (i := 0) (fd := [("lines", some (dVs ls)), ("rays", some (dRays rs)), ("count", some (.int ((B.count + 1 : Nat) : Int)))]) (w := .me) (b := !ex) (xs := (rs.map fun r => (r.1, r.2 ||| 2 ^ B.count)).map dRay) (x := dRay (l, 2 ^ B.count - 1)) rfl (by simp) rfl ?_ cB cr (by simp) (by simp; omega) rfl (et_not (et_B (ev_var (i := 2) rfl))) (fun _ => ?_) ?_
    · have em : ((rs.map fun r => (r.1, r.2 ||| 2 ^ B.count)).map dRay) = (rs.map dRay).map fun d => dRay ((unR d).1, (unR d).2 ||| 2 ^ B.count) := by
        rw [List.map_map, List.map_map]; exact List.map_congr_left fun o _ => by simp
      rw [em]
      refine en_map (ei_list (ev_fld (i := 0) (x := dRays rs) rfl rfl cB cr)) _ (vs := [8, 9]) (by simp [argsO, args])
        (fun x => [.obj C [("lines", some (dVs ls)), ("rays", some (dRays rs)), ("count", some (.int ((B.count + 1 : Nat) : Int)))] .me, .d (dV c), .d (.bool ex), .d (dV l), .d (.int ((2 ^ B.count : Nat) : Int)), .un, .un, .un, .d (dV (unR x).1), .d (.int ((unR x).2 : Nat)), .un, .un, .un]) (by simp; omega) (ws := [8, 9]) (by simp) (fun x hx => ?_) (fun x hx => ?_)
      · obtain ⟨r, hr, rfl⟩ := List.mem_map.mp hx
        rw [unR_dRay]
        exact tg_tup (tgs_cons (tg_name (by simp [wipeE, argsO, args])) (tgs_cons (tg_name (by simp [wipeE, argsO, args])) tgs_nil)) rfl
      · obtain ⟨r, hr, rfl⟩ := List.mem_map.mp hx
        rw [unR_dRay]
        exact ev_tup (ea_cons (ev_var (i := 8) rfl) (ea_cons (ev_eq (ev_op (ev_var (i := 9) rfl) (ev_var (i := 4) rfl) op_orI) (by rw [bor_nat])) ea_nil)) (by simp)
    · refine ev_tup (ea_cons (ev_var (i := 3) rfl) (ea_cons (ev_eq (ev_op (ev_var (i := 4) (x := .int ((2 ^ B.count : Nat) : Int)) rfl) (ev_int (i := 1)) op_sub) ?_) ea_nil)) (by simp)
      have := Nat.two_pow_pos B.count
      congr 1
      omega
    · refine run_eq (run_retNO (i := 0) (C := C) rfl) ?_
      have key : (if (!ex) = true then (rs.map fun r => (r.1, r.2 ||| 2 ^ B.count)).map dRay ++ [dRay (l, 2 ^ B.count - 1)] else (rs.map fun r => (r.1, r.2 ||| 2 ^ B.count)).map dRay) = ((rs.map fun r : List Int × Nat => ((r.1, r.2 ||| 2 ^ B.count) : List Int × Nat)) ++ (if ex then [] else [(l, 2 ^ B.count - 1)])).map dRay := by
        cases ex <;> simp
      rw [key]
      rfl
  | none =>
    have hadd : FM.add c ex B = ⟨B.lines, (if ex then FM.keptOf c (2 ^ B.count) B.rays else FM.keptOf c (2 ^ B.count) B.rays ++ (FM.posOf c B.rays).map fun r => (r.1, r.2.1)) ++ FM.joined B.rays (FM.posOf c B.rays) (FM.negOf c B.rays) (2 ^ B.count), B.count + 1⟩ := by unfold FM.add; rw [ht]
    rw [hadd]
    refine .inr ⟨rfl, ?_⟩
    let fdc : Fd := [("lines", some (dVs B.lines)), ("rays", some (dRays B.rays)), ("count", some (.int ((B.count + 1 : Nat) : Int)))]
    let K' := if ex then FM.keptOf c (2 ^ B.count) B.rays else FM.keptOf c (2 ^ B.count) B.rays ++ (FM.posOf c B.rays).map fun r => (r.1, r.2.1)
    let J := FM.joined B.rays (FM.posOf c B.rays) (FM.negOf c B.rays) (2 ^ B.count)
    have hcr := bo.cr
    have pl := pos_len c B.rays
    have nl := neg_len c B.rays
    have kl := kept_len c (2 ^ B.count) B.rays
    refine ⟨[.obj C (fdB ⟨B.lines, K' ++ J, B.count + 1⟩) .me, .d (dV c), .d (.bool ex), .d .none, .d (.int ((2 ^ B.count : Nat) : Int)), .d (dTris (FM.posOf c B.rays)), .d (dTris (FM.negOf c B.rays)), .d (dRays K'), .un, .un, .un, .d (dRays J), .un], ?_, rfl⟩
    refine run_seq (run_setM (i := 0) (fd' := fdB B) (r := .none) rfl (by simp) rfl rfl (ea_cons (ev_var (i := 1) rfl) ea_nil) ⟨n, a, b, m, B, c, rfl, rfl, bo, lc, hc, h2, h3, by rw [ht]; exact ⟨rfl, rfl⟩⟩ rfl (by simp [argsO, args])) ?_
    refine run_seq (run_set (shl _ (fdB B) B.count rfl rfl hcc) (by simp [argsO, args])) ?_
    refine run_seq (run_aug (i := 0) (fd := fdB B) rfl (by simp) rfl rfl (ev_int (i := 1)) op_rAdd cB cn (by simp [fdB])) ?_
    refine run_seq (run_if (b := false) (et_test (ev_notN (ev_var (i := 3) (x := .none) rfl) rfl)) (fun q => by cases q) (fun _ => run_next)) ?_
    refine run_seq (run_setN (en_lst ea_nil (by simp)) (by simp [argsO, args])) ?_
    refine run_seq (run_setN (en_lst ea_nil (by simp)) (by simp [argsO, args])) ?_
    refine run_seq (run_setN (en_lst ea_nil (by simp)) (by simp [argsO, args])) ?_
    refine run_seq (run_forT (ws := [8] ++ ([9] ++ [])) (ei_list (ev_fld (i := 0) (fd := fdc) (x := dRays B.rays) rfl rfl cB cr)) (fun i => [.obj C fdc .me, .d (dV c), .d (.bool ex), .d .none, .d (.int ((2 ^ B.count : Nat) : Int)), .own ((FM.posOf c (B.rays.take i)).map dTri), .own ((FM.negOf c (B.rays.take i)).map dTri), .own ((FM.keptOf c (2 ^ B.count) (B.rays.take i)).map dRay), .un, .un, .un, .un, .un]) rfl [8, 9, 10] (fun i x hx => ?_)) ?_
    · obtain ⟨r, hr, rfl⟩ := get_dRays hx
      have rm := List.mem_of_getElem? hr
      have p1 := pos_len c (B.rays.take i)
      have p2 := neg_len c (B.rays.take i)
      have p3 := kept_len c (2 ^ B.count) (B.rays.take i)
      rw [List.length_take] at p1 p2 p3
      have tg := fun (e1 e2 e3 : List PyData) => (tg_tup (K := K) (T := T) (n := 2) (env := [.obj C fdc .me, .d (dV c), .d (.bool ex), .d .none, .d (.int ((2 ^ B.count : Nat) : Int)), .own e1, .own e2, .own e3, .un, .un, .un, .un, .un]) (xs := [dV r.1, .int (r.2 : Nat)]) (tgs_cons (tg_name (i := 8) (by simp)) (tgs_cons (tg_name (i := 9) (by simp)) tgs_nil)) rfl)
      rw [pos_take hr, neg_take hr, kept_take hr]
      refine ⟨_, [.obj C fdc .me, .d (dV c), .d (.bool ex), .d .none, .d (.int ((2 ^ B.count : Nat) : Int)), .own ((FM.posOf c (B.rays.take i) ++ (if 0 < FM.dot c r.1 then [(r.1, r.2, FM.dot c r.1)] else [])).map dTri), .own ((FM.negOf c (B.rays.take i) ++ (if FM.dot c r.1 < 0 then [(r.1, r.2, FM.dot c r.1)] else [])).map dTri), .own ((FM.keptOf c (2 ^ B.count) (B.rays.take i) ++ (if FM.dot c r.1 = 0 then [(r.1, r.2 ||| 2 ^ B.count)] else [])).map dRay), .d (dV r.1), .d (.int (r.2 : Nat)), .d (.int (FM.dot c r.1)), .un, .un], tg _ _ _, .inl ?_, rfl⟩
      refine run_seq (run_set (ev_call (ea_cons (ev_var (i := 1) rfl) (ea_cons (ev_var (i := 8) rfl) ea_nil)) ⟨c, r.1, rfl, hc.mono (by omega), (bo.br r rm).mono (by omega), by have := bo.n1; omega, rfl⟩ rfl) (by simp)) ?_
      rcases Int.lt_trichotomy (FM.dot c r.1) 0 with q | q | q
      · have n1 : ¬ FM.dot c r.1 = 0 := by omega
        have n2 : ¬ 0 < FM.dot c r.1 := by omega
        refine run_if (b := false) (et_eq (et_test (ev_op (ev_var (i := 10) rfl) (ev_int (i := 0)) op_eqI)) (by simp [n1])) (fun q => by cases q) (fun _ => run_if (b := false) (et_eq (et_test (ev_op (ev_var (i := 10) rfl) (ev_int (i := 0)) op_gtI)) (by simp [n2])) (fun q => by cases q) (fun _ => ?_))
        refine run_eq (run_app (i := 6) rfl (ev_tup (ea_cons (ev_var (i := 8) rfl) (ea_cons (ev_var (i := 9) rfl) (ea_cons (ev_var (i := 10) rfl) ea_nil))) (by simp)) (by simp; omega)) ?_
        simp [n1, n2, q, dTri]
      · have n1 : ¬ FM.dot c r.1 < 0 := by omega
        have n2 : ¬ 0 < FM.dot c r.1 := by omega
        refine run_if (b := true) (et_eq (et_test (ev_op (ev_var (i := 10) rfl) (ev_int (i := 0)) op_eqI)) (by simp [q])) (fun _ => ?_) (fun q => by cases q)
        refine run_eq (run_app (i := 7) (x := dRay (r.1, r.2 ||| 2 ^ B.count)) rfl (ev_tup (ea_cons (ev_var (i := 8) rfl) (ea_cons (ev_eq (ev_op (ev_var (i := 9) rfl) (ev_var (i := 4) rfl) op_orI) (by rw [bor_nat])) ea_nil)) (by simp)) (by simp; omega)) ?_
        simp [n1, n2, q]
      · have n1 : ¬ FM.dot c r.1 = 0 := by omega
        have n2 : ¬ FM.dot c r.1 < 0 := by omega
        refine run_if (b := false) (et_eq (et_test (ev_op (ev_var (i := 10) rfl) (ev_int (i := 0)) op_eqI)) (by simp [n1])) (fun q => by cases q) (fun _ => run_if (b := true) (et_eq (et_test (ev_op (ev_var (i := 10) rfl) (ev_int (i := 0)) op_gtI)) (by simp [q])) (fun _ => ?_) (fun q => by cases q))
        refine run_eq (run_app (i := 5) rfl (ev_tup (ea_cons (ev_var (i := 8) rfl) (ea_cons (ev_var (i := 9) rfl) (ea_cons (ev_var (i := 10) rfl) ea_nil))) (by simp)) (by simp; omega)) ?_
        simp [n1, n2, q, dTri]
    · rw [List.length_map, List.take_length]
      refine run_freeze (i := 5) rfl (run_freeze (i := 6) rfl (run_freeze (i := 7) rfl ?_))
      have hall : ∀ p ∈ FM.posOf c B.rays ++ FM.negOf c B.rays, p.1.length = n ∧ Bd b p.1 ∧ p.2.2.natAbs < 2 ^ (m + b + 10) := fun p hp => by
        have : ∃ r ∈ B.rays, p = (r.1, r.2, FM.dot c r.1) := by
          rcases List.mem_append.mp hp with hp | hp
          · unfold FM.posOf at hp
            obtain ⟨r, hr, rfl⟩ := List.mem_map.mp hp
            exact ⟨r, (List.mem_filter.mp hr).1, rfl⟩
          · unfold FM.negOf at hp
            obtain ⟨r, hr, rfl⟩ := List.mem_map.mp hp
            exact ⟨r, (List.mem_filter.mp hr).1, rfl⟩
        obtain ⟨r, hr, rfl⟩ := this
        exact ⟨bo.lenr r hr, bo.br r hr, dot_bd2 hc (bo.br r hr) (by have := bo.n1; omega)⟩
      have hpn : (FM.posOf c B.rays).length * (FM.negOf c B.rays).length ≤ 90000 := Nat.le_trans (Nat.mul_le_mul (Nat.le_trans pl hcr) (Nat.le_trans nl hcr)) (by decide)
      refine run_seq (run_set (x := dRays J) (ev_methO (i := 0) (fd := fdc) rfl rfl (ea_cons (ev_var (i := 5) rfl) (ea_cons (ev_var (i := 6) rfl) (ea_cons (ev_var (i := 4) rfl) ea_nil))) ⟨B.rays, FM.posOf c B.rays, FM.negOf c B.rays, 2 ^ B.count, n, b, m + b + 10, rfl, rfl, rfl, bo.n1, by omega, hall, hpn, rfl⟩ rfl) (by simp)) ?_
      have Jl : J.length ≤ 90000 := by
        have := fl_len (R := B.rays) (bit := 2 ^ B.count) (neg := FM.negOf c B.rays) (FM.posOf c B.rays)
        rw [← joined_offer] at this
        exact Nat.le_trans this hpn
      refine run_seq (env' := [.obj C fdc .me, .d (dV c), .d (.bool ex), .d .none, .d (.int ((2 ^ B.count : Nat) : Int)), .d (dTris (FM.posOf c B.rays)), .d (dTris (FM.negOf c B.rays)), .d (dRays K'), .un, .un, .un, .d (dRays J), .un]) ?_ (run_fld (i := 0) (fd := fdc) rfl (by simp) rfl (ev_eq (en_cat (ev_var (i := 7) rfl) (ev_var (i := 11) rfl) ?_).e ?_) cB cr (by simp [fdc]))
      · cases ex with
        | true => exact run_if (b := false) (et_eq (et_not (et_B (b := true) (ev_var (i := 2) rfl))) rfl) (fun q => by cases q) (fun _ => run_next)
        | false =>
          refine run_if (b := true) (et_eq (et_not (et_B (b := false) (ev_var (i := 2) rfl))) rfl) (fun _ => ?_) (fun q => by cases q)
          have em : dRays K' = .list ((FM.keptOf c (2 ^ B.count) B.rays).map dRay ++ ((FM.posOf c B.rays).map dTri).map fun d => dRay ((unT d).1, (unT d).2.1)) := by
            simp only [K', dRays, Bool.false_eq_true, if_false, List.map_append, List.map_map]
            congr 2
            exact List.map_congr_left fun o _ => by simp
          rw [em]
          refine run_set (i := 7) (en_cat (ev_var (i := 7) rfl) (en_map (ei_list (ev_var (i := 5) rfl)) (fun d => dRay ((unT d).1, (unT d).2.1)) (vs := [8, 9, 12]) (by simp)
            (fun x => [.obj C fdc .me, .d (dV c), .d (.bool false), .d .none, .d (.int ((2 ^ B.count : Nat) : Int)), .d (dTris (FM.posOf c B.rays)), .d (dTris (FM.negOf c B.rays)), .d (.list ((FM.keptOf c (2 ^ B.count) B.rays).map dRay)), .d (dV (unT x).1), .d (.int ((unT x).2.1 : Nat)), .un, .d (dRays J), .d (.int (unT x).2.2)]) (by simp; omega) (ws := [8, 9, 12]) (by simp) (fun x hx => ?_) (fun x hx => ?_)).e (by simp; omega)).e (by simp)
          · obtain ⟨r, hr, rfl⟩ := List.mem_map.mp hx
            rw [unT_dTri]
            exact tg_tup (tgs_cons (tg_name (by simp [wipeE])) (tgs_cons (tg_name (by simp [wipeE])) (tgs_cons (tg_name (by simp [wipeE])) tgs_nil))) rfl
          · obtain ⟨r, hr, rfl⟩ := List.mem_map.mp hx
            rw [unT_dTri]
            exact ev_tup (ea_cons (ev_var (i := 8) rfl) (ea_cons (ev_var (i := 9) rfl) ea_nil)) (by simp)
      · have : K'.length ≤ 600 := by
          simp only [K']
          split
          · omega
          · rw [List.length_append, List.length_map]; omega
        rw [List.length_map, List.length_map]
        omega
      · show PyData.list (K'.map dRay ++ J.map dRay) = .list ((K' ++ J).map dRay)
        rw [List.map_append]
end FD
end
section
set_option Elab.async false
set_option linter.all false
set_option maxRecDepth 100000
set_option maxHeartbeats 4000000
/-! dual -/
namespace FD
open PySem PySem.Spec PyProof.Rows L2 LamX FW FT FK
section
open PySem.W
variable {X : Cx}
def rSortV (K : PySem.W.Frag) : List V → Hp → VK → Prop := fun vs H Q => ∃ (a : Addr) (xs : List V) (vv : List (List Int)), vs = [.ref a] ∧ SqL K H a xs ∧ DpAll K H xs (vv.map dV) ∧ vv.length ≤ 100000 ∧
  ∀ p, H p = none → Q (.ref p) (upd H p (.lst (((xs.zip vv).mergeSort fun p q => decide (p.2 ≤ q.2)).map (·.1))))
theorem alike_ints : ∀ u v : List Int, alikeAll (u.map PyData.int) (v.map PyData.int) = true
  | [], _ => by simp [alikeAll]
  | _ :: _, [] => by simp [alikeAll]
  | x :: u, y :: v => by
    simp only [List.map_cons, alikeAll, alike_ints u v, Bool.and_true]
    rfl
theorem dpall_len {K : PySem.W.Frag} {H : Hp} : ∀ {xs : List V} {ds : List PyData}, DpAll K H xs ds → xs.length = ds.length
  | _, _, .nil => rfl
  | _, _, .cons _ b => congrArg Nat.succ (dpall_len b)
theorem sortV_each {pins : List (Addr × Obj)} {σ : L2.St} {H : Hp} {s : Shared} (I : Inv X pins σ H s) : ∀ {xs : List V} {vs : List Value} {vv : List (List Int)}, Vals xs vs → DpAll X.K H xs (vv.map dV) →
    EachIs (fun (v : Value) (p : V × List Int) => RelV p.1 v) vs (xs.zip vv) ∧ EachIs (fun v (p : V × List Int) => ∃ as, Reads s.heap v (dV p.2) as) vs (xs.zip vv)
  | [], _, [], .nil, _ => ⟨.nil, .nil⟩
  | _, _, z :: vv, .cons r rs, .cons d ds => by
    obtain ⟨h1, h2⟩ := sortV_each I rs ds
    exact ⟨.cons r h1, .cons (Dp.reads I _ _ _ d r) h2⟩
theorem each_valsV : ∀ {out : List Value} {zs : List (V × List Int)}, EachIs (fun (v : Value) (p : V × List Int) => RelV p.1 v) out zs → Vals (zs.map (·.1)) out
  | _, _, .nil => .nil
  | _, _, .cons h r => .cons h (each_valsV r)
theorem call_sortV (hu : X.A.units + 64 < cLine) : CallR X (.builtin "sorted") (rSortV X.K) := by
  intro pins s σ H vs us Q I r h
  obtain ⟨a, xs, vv, rfl, hs, hd, hz, q⟩ := h
  obtain ⟨its, rv, hl, _⟩ := I.list hs
  rw [Vals.ref1 r]
  obtain ⟨e1, e2⟩ := sortV_each I rv hd
  have lx : xs.length = vv.length := by have := dpall_len hd; rwa [List.length_map] at this
  refine PySem.W.sorted_data (bs := xs.zip vv) (enc := fun p => dV p.2) hl.isList e1 e2 (fun d hd d' hd' => ?_) (.inr fun d hd => ?_) (by rw [List.length_zip]; exact Nat.le_trans (by omega) (Nat.le_trans hz (by decide))) (fun b hb => ?_) fun out ho eo => ?_
  · obtain ⟨x, _, rfl⟩ := List.mem_map.mp hd
    obtain ⟨y, _, rfl⟩ := List.mem_map.mp hd'
    exact alike_ints x.2 y.2
  · obtain ⟨x, _, rfl⟩ := List.mem_map.mp hd
    exact ⟨by simp [dV], fun xs => by simp [dV]⟩
  · rw [depth_dV]; omega
  · obtain ⟨ep, he'⟩ := PyProof.Rows.sortedAll_at s.heap its (List.toArray out)
    have eo' : EachIs (fun (v : Value) (p : V × List Int) => RelV p.1 v) out ((xs.zip vv).mergeSort fun p q => decide (p.2 ≤ q.2)) := by
      have := PySem.W.dataLe_rows (fun p : V × List Int => p.2)
      unfold dV at eo
      rw [this] at eo
      exact eo
    have rvv := each_valsV eo'
    have hlen : (((xs.zip vv).mergeSort fun p q => decide (p.2 ≤ q.2)).map (·.1)).length ≤ sizeLine := by
      rw [List.length_map, List.length_mergeSort, List.length_zip]; exact Nat.le_trans (by omega) (Nat.le_trans hz (by decide))
    exact ⟨.ref _, upd H (s.heap.objs.size + 1) (.lst (((xs.zip vv).mergeSort fun p q => decide (p.2 ≤ q.2)).map (·.1))), I.laid (t' := s.toks) (fun _ _ => PyProof.Rows.sortedAll_old) (Nat.le_succ _) ⟨hlen, out, ep, rvv, by simpa using he'⟩, rfl, q _ (I.hok.fresh (Nat.le_succ _))⟩
end
section
variable {K : PySem.W.Frag} {T : List (Addr × Str)} {env : En}
theorem dall_mapsV {Av : Avs} {H : Hp} : ∀ {zs : List (V × List Int)}, (∀ z ∈ zs, DA K Av H z.1 (dV z.2)) → DAll K Av H (zs.map (·.1)) ((zs.map (·.2)).map dV)
  | [], _ => .nil
  | z :: zs, h => .cons (h z (by simp)) (dall_mapsV fun x hx => h x (by simp [hx]))
theorem dall_zipV {Av : Avs} {H : Hp} : ∀ {vs : List V} {xs : List (List Int)}, DAll K Av H vs (xs.map dV) → ∀ z ∈ vs.zip xs, DA K Av H z.1 (dV z.2)
  | _, [], h, z, hz => by simp at hz
  | _, x :: xs, .cons a b, z, hz => by
    rcases List.mem_cons.mp hz with rfl | hz
    · exact a
    · exact dall_zipV b z hz
theorem ev_sortV {te : TE} {vv : List (List Int)} (h : EvE K T te env (dVs vv)) (hz : vv.length ≤ 100000) : EvE K T (tCB (rSortV K) (tCons te tNil)) env (dVs (FM.sortV vv)) := fun Mu Av0 H0 Av σ H S Q q =>
  h _ _ _ _ _ _ S _ fun v H1 e1 t1 d1 => by
    cases d1 with
    | @lst a vs _ h1 n r =>
      have lv := r.length
      rw [List.length_map] at lv
      refine ⟨a, vs, vv, rfl, SqL.of h1, r.dp _ _, hz, fun p hp => ?_⟩
      have S1 := S.grow e1 t1
      refine q _ _ (e1.trans (new_of hp)) (tabs_new t1 hp) (.lst upd_same (not_av S1.av hp) ?_)
      have m2 : (((vs.zip vv).mergeSort fun p q => decide (p.2 ≤ q.2)).map fun p => p.2) = FM.sortV vv := by
        unfold FM.sortV
        rw [List.map_mergeSort (s := fun p q : List Int => decide (p ≤ q)) (fun a _ b _ => rfl), zip_snd lv]
      rw [← m2]
      exact (dall_mapsV fun z hz => dall_zipV r z (List.mem_mergeSort.mp hz)).ext (new_of hp)
end
variable {P : Program} {w : World} {K : PySem.W.Frag} {mg : Str → Option Value} {base : Heap} {T : List (Addr × Str)} {C : Addr}
theorem add_cnt (c : List Int) (ex : Bool) (B : FM.Bld) : (FM.add c ex B).count = B.count + 1 := by
  unfold FM.add
  split <;> rfl
theorem eqs_take {E : List (List Int)} {B : FM.Bld} {i : Nat} {e : List Int} (h : E[i]? = some e) : FM.addEqs (E.take (i + 1)) B = FM.add e true (FM.addEqs (E.take i) B) := by
  unfold FM.addEqs
  rw [List.take_add_one, h, List.foldl_append]; rfl
theorem conds_take {E : List (List Int)} {B : FM.Bld} {i : Nat} {e : List Int} (h : E[i]? = some e) : FM.addConds (E.take (i + 1)) B = FM.add e false (FM.addConds (E.take i) B) := by
  unfold FM.addConds
  rw [List.take_add_one, h, List.foldl_append]; rfl
theorem eqs_cnt : ∀ (E : List (List Int)) (B : FM.Bld), (FM.addEqs E B).count = B.count + E.length
  | [], B => rfl
  | e :: E, B => by
    have := eqs_cnt E (FM.add e true B)
    rw [add_cnt] at this
    show (FM.addEqs E (FM.add e true B)).count = _
    rw [this, List.length_cons]; omega
theorem conds_cnt : ∀ (E : List (List Int)) (B : FM.Bld), (FM.addConds E B).count = B.count + E.length
  | [], B => rfl
  | e :: E, B => by
    have := conds_cnt E (FM.add e false B)
    rw [add_cnt] at this
    show (FM.addConds E (FM.add e false B)).count = _
    rw [this, List.length_cons]; omega
theorem bd_of {k N : Nat} {v : List Int} (h : FM.Bnd N v) (e : N < 2 ^ k) : Bd k v := fun x hx => Nat.lt_of_le_of_lt (h x hx) e
theorem bnd_of {k : Nat} {v : List Int} (h : Bd k v) : FM.Bnd (2 ^ k) v := fun x hx => Nat.le_of_lt (h x hx)
theorem pow3 (m : Nat) : 216 * (2 ^ m * 2 ^ m * 2 ^ m) < 2 ^ (3 * m + 8) := by
  have e : 2 ^ (3 * m + 8) = (2 ^ m * 2 ^ m * 2 ^ m) * 256 := by
    rw [Nat.pow_add, show 3 * m = m + m + m by omega, Nat.pow_add, Nat.pow_add]
  have p : 0 < 2 ^ m * 2 ^ m * 2 ^ m := Nat.mul_pos (Nat.mul_pos (Nat.two_pow_pos m) (Nat.two_pow_pos m)) (Nat.two_pow_pos m)
  rw [e]; omega
theorem pow2a (m : Nat) : 2 * (1296 * 2 ^ m * (1296 * 2 ^ m)) < 2 ^ (2 * m + 22) := by
  have e : 2 ^ (2 * m + 22) = (2 ^ m * 2 ^ m) * 4194304 := by
    rw [Nat.pow_add, show 2 * m = m + m by omega, Nat.pow_add]
  have p : 0 < 2 ^ m * 2 ^ m := Nat.mul_pos (Nat.two_pow_pos m) (Nat.two_pow_pos m)
  have q : 1296 * 2 ^ m * (1296 * 2 ^ m) = 1679616 * (2 ^ m * 2 ^ m) := by rw [Nat.mul_mul_mul_comm]
  rw [e, q]; omega
theorem pow2b (m : Nat) : 2 * (2 ^ m * 2 ^ m) < 2 ^ (2 * m + 2) := by
  have e : 2 ^ (2 * m + 2) = (2 ^ m * 2 ^ m) * 4 := by
    rw [Nat.pow_add, show 2 * m = m + m by omega, Nat.pow_add]
  have p : 0 < 2 ^ m * 2 ^ m := Nat.mul_pos (Nat.two_pow_pos m) (Nat.two_pow_pos m)
  rw [e]; omega
theorem pow1 (m : Nat) : 6 * 2 ^ m < 2 ^ (m + 3) := by
  have p := Nat.two_pow_pos m
  rw [Nat.pow_add]; omega
theorem way_ok {n m k : Nat} {B : FM.Bld} (h : FM.Way n (2 ^ m) B k) (hn : n ≤ 1000) (hk : k ≤ 300) (hc : B.count ≤ 1000) : BOk n (3 * m + 8) (2 * m + 22) B where
  n1 := hn
  lenl := h.lens
  lenr := h.lenr
  bl := fun l hl => bd_of (h.lines l hl) (pow3 m)
  br := fun r hr => bd_of (h.rays r hr) (pow2a m)
  cl := Nat.le_trans h.cntl hn
  cr := Nat.le_trans h.cntr hk
  cc := hc
theorem uniq_step {rs L : List (List Int)} {x : List Int} : FM.uniq (rs ++ [x]) L = if (FM.uniq rs L).contains (FM.reduced x L) then FM.uniq rs L else FM.uniq rs L ++ [FM.reduced x L] := by
  unfold FM.uniq
  rw [List.foldl_append]; rfl
theorem any_eqv (u : List (List Int)) (x : List Int) : ((u.map dV).any fun z => PyData.eqv z (dV x)) = u.contains x := by
  rw [List.any_map, List.contains_eq_any_beq]
  congr 1
  funext z
  simp only [Function.comp, eqv_dV]
  by_cases e : z = x
  · subst e; simp
  · have : ¬ x = z := fun q => e q.symm
    simp [e, this]
abbrev n_dual : List Str := ["equations", "conditions", "size", "builder", "equation", "condition", "lines", "rays", "ray", "_"]
theorem sc_dual : FnScope n_dual ["equations", "conditions", "size"] (defScope (top 16)) := ⟨rfl, rfl, rfl, by decide +kernel, rfl, by decide +kernel, by decide +kernel⟩
def F_dual (ds : List PyData) (r : PyData) : Prop := ∃ (n m : Nat) (E D : List (List Int)), ds = [dVs E, dVs D, .int (n : Nat)] ∧ (n = 2 ∨ n = 3) ∧ FM.Lens n E ∧ FM.Lens n D ∧ (∀ e ∈ E, Bd m e) ∧ (∀ c ∈ D, Bd m c) ∧ 1 ≤ m ∧ m ≤ 800 ∧ E.length ≤ 100 ∧ D.length ≤ 100 ∧ r = .tuple [dVs (FM.dual E D n).1, dVs (FM.dual E D n).2]
theorem D_dual (h : Has K mg "dual" (top 16)) (m_Builder : mg "Builder" = some (.ref C)) {fi : Addr} (mkB : Mk K C fi) (cB : ClsB K C)
    (d1 : Mn P w K mg base 1 C "__init__" ["self", "size"] (SpM K T C 1 F_init)) (d2 : Mn P w K mg base 4 C "add" ["self", "condition", "exact"] (SpM K T C 2 F_add)) (d3 : Dn P w K mg base 9 "echelon" ["rows"] (SpD K T 1 F_echelon)) (d4 : Dn P w K mg base 4 "reduced" ["vector", "rows"] (SpD K T 2 F_reduced)) (m_sorted : mg "sorted" = none) :
    Dn P w K mg base 11 "dual" ["equations", "conditions", "size"] (SpD K T 3 F_dual) := by
  have nd := sc_dual.nd
  obtain ⟨fi2, _, G_init, mt_init, b_init⟩ := d1
  obtain rfl : fi = fi2 := by
    have a := mkB.init
    have b := mt_init.at_
    rw [a] at b
    simpa using b
  obtain ⟨_, _, G_add, mt_add, b_add⟩ := d2
  obtain ⟨_, _, G_echelon, m_echelon, k_echelon, b_echelon⟩ := d3
  obtain ⟨_, _, G_reduced, m_reduced, k_reduced, b_reduced⟩ := d4
  obtain ⟨cB, cl, cr, cn⟩ := cB
  refine mkD (k := 10) (m := 7) h sc_dual rfl rfl (fun _ _ _ _ _ _ us hl => match us, hl with | [_, _, _], _ => rfl) fun f cdv A outer s H E hr => ⟨_, pss_cons (ps_set (i := 3) nd rfl (Or.inl rfl) (pe_make mkB G_init (hr.mono (by decide)) (by rfl) m_Builder b_init .nil pass0 (pa_cons (pv 2) pa_nil))) (pss_cons (ps_for PassesOwn.never rfl (pi_list (pv 0)) (pg_name (i := 4) nd rfl (Or.inl rfl)) (pss_one (ps_expr (pe_meth (pv 3) cB mt_add G_add (hr.mono (by decide)) b_add .nil pass0 (pa_cons (pv 4) (pa_cons (pe_bl) pa_nil)))))) (pss_cons (ps_for PassesOwn.never rfl (pi_list (pv 1)) (pg_name (i := 5) nd rfl (Or.inl rfl)) (pss_one (ps_expr (pe_meth (pv 3) cB mt_add G_add (hr.mono (by decide)) b_add .nil pass0 (pa_cons (pv 5) (pa_cons (pe_bl) pa_nil)))))) (pss_cons (ps_set (i := 6) nd rfl (Or.inl rfl) (pe_call G_echelon (hr.mono (by decide)) (by rfl) m_echelon k_echelon b_echelon .nil pass0 (pa_cons (pe_fld (pv 3) rfl) pa_nil))) (pss_cons (ps_set (i := 7) nd rfl (Or.inl rfl) (pe_lst pa_nil)) (pss_cons (ps_for PassesOwn.never rfl (pi_list (pe_fld (pv 3) rfl)) (pg_tup rfl (pgs_cons (pg_name (i := 8) nd rfl (Or.inl rfl)) (pgs_cons (pg_name (i := 9) nd rfl (Or.inl rfl)) pgs_nil))) (pss_cons (ps_set (i := 8) nd rfl (Or.inl rfl) (pe_call G_reduced (hr.mono (by decide)) (by rfl) m_reduced k_reduced b_reduced .nil pass0 (pa_cons (pv 8) (pa_cons (pv 6) pa_nil)))) (pss_one (ps_if (pt_cmpR (op_notInD (hu65 hr)) (pv 8) (pv 7) (by rfl)) (pss_one (ps_expr (pe_bm PySem.F.plainAttrs_list PySem.F.slot_list_append PySem.F.type_list_append mt_append (pv 7) (pa_cons (pv 8) pa_nil)))) (pss_nil))))) (pss_one (ps_ret (pe_tup (pa_cons (pv 6) (pa_cons (pe_callB (call_sortV (hu64 hr)) (by rfl) m_sorted (by decide +kernel) (pa_cons (pv 7) pa_nil)) pa_nil)))))))))), ?_⟩
  rintro ds r ⟨n, m, E, D, rfl, hn, hE, hD, bE, bD, m1, m2, lE, lD, rfl⟩ _
  refine .inl ?_
  have hn3 : n ≤ 3 := by omega
  obtain ⟨wE, wD⟩ := FM.built_way (M := 2 ^ m) hn (Nat.two_pow_pos m) hE hD (fun e he => bnd_of (bE e he)) fun c hc => bnd_of (bD c hc)
  have c0 : (FM.start n).count = 0 := rfl
  refine run_seq (FW.run_make (j := 3) (C := C) (fd' := fdB (FM.start n)) (ea_cons (ev_var (i := 2) rfl) ea_nil) ⟨n, by omega, rfl, rfl, rfl, rfl⟩ rfl (by simp [args])) ?_
  refine run_seq (run_forN (ei_list (ev_var (i := 0) rfl)) (fun i => [.d (dVs E), .d (dVs D), .d (.int (n : Nat)), .obj C (fdB (FM.addEqs (E.take i) (FM.start n))) .mine, .un, .un, .un, .un, .un, .un]) rfl (fun i => by simp) (fun i x hx => ?_)) ?_
  · obtain ⟨e, he, rfl⟩ := get_dVs hx
    have em := List.mem_of_getElem? he
    have hi := (List.getElem?_eq_some_iff.mp he).1
    have bo := way_ok (wE i (by omega)) (by omega) (by omega) (by rw [eqs_cnt, c0, List.length_take]; omega)
    refine ⟨_, .inl (run_dropM (i := 3) (fd' := fdB (FM.addEqs (E.take (i + 1)) (FM.start n))) (r := .none) rfl (by simp) rfl rfl (ea_cons (ev_var (i := 4) rfl) (ea_cons ev_bl ea_nil)) ⟨n, 3 * m + 8, 2 * m + 22, m, _, e, true, rfl, rfl, bo, hE e em, bE e em, by omega, by omega, by omega, by rw [eqs_take he], rfl⟩ rfl), rfl⟩
  rw [List.length_map, List.take_length]
  refine run_seq (run_forN (ei_list (ev_var (i := 1) rfl)) (fun i => [.d (dVs E), .d (dVs D), .d (.int (n : Nat)), .obj C (fdB (FM.addConds (D.take i) (FM.addEqs E (FM.start n)))) .mine, .un, .un, .un, .un, .un, .un]) rfl (fun i => by simp) (fun i x hx => ?_)) ?_
  · obtain ⟨e, he, rfl⟩ := get_dVs hx
    have em := List.mem_of_getElem? he
    have hi := (List.getElem?_eq_some_iff.mp he).1
    have bo := way_ok (wD i (by omega)) (by omega) (by omega) (by rw [conds_cnt, eqs_cnt, c0, List.length_take]; omega)
    refine ⟨_, .inl (run_dropM (i := 3) (fd' := fdB (FM.addConds (D.take (i + 1)) (FM.addEqs E (FM.start n)))) (r := .none) rfl (by simp) rfl rfl (ea_cons (ev_var (i := 5) rfl) (ea_cons ev_bl ea_nil)) ⟨n, 3 * m + 8, 2 * m + 22, m, _, e, false, rfl, rfl, bo, hD e em, bD e em, by omega, by omega, by omega, by rw [conds_take he], rfl⟩ rfl), rfl⟩
  rw [List.length_map, List.take_length]
  have wB := wD D.length (Nat.le_refl _)
  rw [List.take_length] at wB
  have bo := way_ok wB (by omega) (by omega) (by rw [conds_cnt, eqs_cnt, c0]; omega)
  have cone := (FM.dual_cone hE hD).1
  obtain ⟨sm1, sm2⟩ := FM.cone_small (M := 2 ^ m) cone hn (Nat.two_pow_pos m) (FM.lens_app hE hD) (fun p hp => by
    rcases List.mem_append.mp hp with hp | hp
    · exact bnd_of (bE p hp)
    · exact bnd_of (bD p hp))
  have dc := (FM.dual_count hn hE hD).1
  have bl : FM.addConds D (FM.addEqs E (FM.start n)) = FM.built n E D := rfl
  rw [bl] at bo wB ⊢
  have e1 : (FM.dual E D n).1 = FM.echelon n (FM.built n E D).lines := rfl
  have e2 : (FM.dual E D n).2 = FM.sortV (FM.uniq ((FM.built n E D).rays.map (·.1)) (FM.echelon n (FM.built n E D).lines)) := rfl
  have Ech := cone.ech
  rw [e1] at sm1 dc Ech
  rw [e1, e2]
  have fech : F_echelon [dVs (FM.built n E D).lines] (dVs (FM.echelon n (FM.built n E D).lines)) := by
    have hl := wB.cntl
    by_cases c1 : (FM.built n E D).lines.length ≤ 1
    · exact ⟨n, 3 * m + 8, _, rfl, by omega, by omega, bo.lenl, bo.bl, by omega, by omega, fun t h1 h2 => by omega, rfl⟩
    · by_cases c2 : (FM.built n E D).lines.length = n
      · refine ⟨n, 1, _, rfl, by omega, by omega, bo.lenl, fun k hk => bd_of (wB.all c2 k hk) (by decide), by omega, by omega, fun t h1 h2 => ?_, rfl⟩
        have : t = 1 ∨ t = 2 := by omega
        rcases this with rfl | rfl <;> decide
      · have e3 : n = 3 := by omega
        refine ⟨n, m + 3, _, rfl, by omega, by omega, bo.lenl, fun k hk => bd_of (wB.two (by omega) e3 k hk) (pow1 m), by omega, by omega, fun t h1 h2 => ?_, rfl⟩
        obtain rfl : t = 1 := by omega
        simp only [eA]
        omega
  generalize FM.echelon n (FM.built n E D).lines = L at sm1 dc Ech fech ⊢
  generalize FM.built n E D = B at bo wB fech ⊢
  refine run_seq (run_set (ev_call (ea_cons (ev_fld (i := 3) rfl rfl cB cl) ea_nil) fech rfl) (by simp)) ?_
  refine run_seq (run_setN (en_lst ea_nil (by simp)) (by simp)) ?_
  refine run_seq (run_forT (ws := [8] ++ ([9] ++ [])) (ei_list (ev_fld (i := 3) (x := dRays B.rays) rfl rfl cB cr)) (fun i => [.d (dVs E), .d (dVs D), .d (.int (n : Nat)), .obj C (fdB B) .mine, .un, .un, .d (dVs L), .own ((FM.uniq ((B.rays.take i).map (·.1)) L).map dV), .un, .un]) rfl [8, 9] (fun i x hx => ?_)) ?_
  · obtain ⟨r, hr, rfl⟩ := get_dRays hx
    have rm := List.mem_of_getElem? hr
    have hi := (List.getElem?_eq_some_iff.mp hr).1
    have hcr := bo.cr
    have e3 : (B.rays.take (i + 1)).map (·.1) = (B.rays.take i).map (·.1) ++ [r.1] := by rw [List.take_add_one, hr]; simp
    have ul := (FM.uniq_spec ((B.rays.take i).map (·.1)) L).2.2
    rw [List.length_map, List.length_take] at ul
    rw [e3, uniq_step]
    generalize FM.uniq ((B.rays.take i).map (·.1)) L = U at ul ⊢
    have fred : F_reduced [dV r.1, dVs L] (dV (FM.reduced r.1 L)) := ⟨n, 2 * m + 22, 2 * m + 2, r.1, L, rfl, by omega, bo.lenr r rm, Ech, bo.br r rm, fun k hk => bd_of (sm1 k hk) (pow2b m), by
      have : L.length * (2 * m + 2 + 1) ≤ 3 * (2 * m + 2 + 1) := Nat.mul_le_mul_right _ (by omega)
      omega, by omega, rfl⟩
    refine ⟨_, [.d (dVs E), .d (dVs D), .d (.int (n : Nat)), .obj C (fdB B) .mine, .un, .un, .d (dVs L), .own ((if U.contains (FM.reduced r.1 L) then U else U ++ [FM.reduced r.1 L]).map dV), .d (dV (FM.reduced r.1 L)), .d (.int (r.2 : Nat))], tg_tup (tgs_cons (tg_name (by simp)) (tgs_cons (tg_name (by simp)) tgs_nil)) rfl, .inl ?_, rfl⟩
    refine run_seq (run_set (ev_call (ea_cons (ev_var (i := 8) rfl) (ea_cons (ev_var (i := 6) rfl) ea_nil)) fred rfl) (by simp)) ?_
    generalize FM.reduced r.1 L = x
    have tst : EvT K T (tTest (tOp (rNotInD K) (tVar 8) (tVar 7))) [.d (dVs E), .d (dVs D), .d (.int (n : Nat)), .obj C (fdB B) .mine, .un, .un, .d (dVs L), .own (U.map dV), .d (dV x), .d (.int (r.2 : Nat))] (!U.contains x) := by
      refine et_thaw (i := 7) rfl (et_test (ev_eq (ev_op (ev_var (i := 8) rfl) (ev_var (i := 7) rfl) (op_niDat (shaped_dV x) (shaped_dVs U))) ?_))
      rw [any_eqv]
    by_cases q : U.contains x = true
    · rw [if_pos q]
      exact run_if (b := false) (et_eq tst (by rw [q]; rfl)) (fun q => by cases q) (fun _ => run_next)
    · rw [if_neg q]
      refine run_if (b := true) (et_eq tst (by simpa using q)) (fun _ => ?_) (fun q => by cases q)
      refine run_eq (run_app (i := 7) rfl (ev_var (i := 8) rfl) (by simp; omega)) ?_
      simp
  · rw [List.length_map, List.take_length]
    refine run_freeze (i := 7) rfl ?_
    refine run_ret (ev_tup (ea_cons (ev_var (i := 6) rfl) (ea_cons (ev_sortV (ev_var (i := 7) rfl) ?_) ea_nil)) (by simp))
    have ul := (FM.uniq_spec (B.rays.map (·.1)) L).2.2
    have hcr := bo.cr
    rw [List.length_map] at ul
    omega
end FD
end
section
set_option Elab.async false
set_option linter.all false
set_option maxRecDepth 100000
set_option maxHeartbeats 4000000
/-! polyhedra -/
namespace FD
open PySem PySem.Spec PyProof.Rows L2 LamX FW FT FK
section
variable {K : PySem.W.Frag} {T : List (Addr × Str)} {env : En} {ta tb te : TE} {xs : List PyData}
theorem flat_one {α : Type} (v : α) : ∀ n, (List.replicate n [v]).flatten = List.replicate n v
  | 0 => rfl
  | n + 1 => by rw [List.replicate_succ, List.flatten_cons, flat_one v n, List.replicate_succ]; rfl
theorem en_rep {d : PyData} {n : Nat} (h : EvE K T ta env (.list [d])) (h2 : EvE K T tb env (.int (n : Nat))) (hz : n ≤ 1000) : EvN K T (tOp rRep ta tb) env (List.replicate n d) := fun Mu Av0 H0 Av σ H S Q q =>
  h _ _ _ _ _ _ S _ fun v H1 e1 t1 d1 => h2 _ _ _ _ _ _ (S.grow e1 t1) _ fun u H2 e2 t2 d2 => by
    cases d2
    cases d1 with
    | @lst a vs _ h1 na r =>
      cases r with
      | cons dv r =>
        cases r
        rename_i v
        refine ⟨a, (n : Int), [v], rfl, rfl, ext_lst e2 h1, by omega, by omega, Nat.le_trans (show [v].length * (n : Int).toNat ≤ 1000 by simp; omega) (by decide), fun p hp => ?_⟩
        rw [Int.toNat_natCast, flat_one]
        refine q p _ _ ((Fresh.of hp).back (e1.trans e2)) (not_av (S.grow (e1.trans e2) t2).av hp) ((e1.trans e2).trans (new_of hp)) (tabs_new t2 hp) upd_same ?_
        exact da_replicate (((dv.ext e2).more (Fresh.of hp) fun _ z => z).ext (new_of hp)) n
/-- a call that leaves defaults to be filled up -/
theorem ev_callD {n : Nat} {F : List PyData → PyData → Prop} {E : XK} {ta : TA} {dvs : List V} {ds es : List PyData} {r : PyData} (h : EvA K T ta env ds) (hF : F (ds ++ es) r) (hn : (ds ++ es).length = n) (he : ∀ (Av : Avs) H, DAll K Av H dvs es) : EvE K T (tCall (SpD K T n F) dvs E ta) env r := fun Mu Av0 H0 Av σ H S Q q =>
  h _ _ _ _ _ _ S _ fun vs H1 e1 t1 d1 => ⟨Av, ds ++ es, r, hF, by rw [← hn, List.length_append, List.length_append, d1.length, (he Av H1).length], t1, (S.grow e1 t1).av, d1.append (he Av H1), fun v H2 e2 t2 d2 => q v H2 (e1.trans e2) t2 d2⟩
end
variable {P : Program} {w : World} {K : PySem.W.Frag} {mg : Str → Option Value} {base : Heap} {T : List (Addr × Str)} {C : Addr}
def dPoly (P : FM.Poly) : PyData := .tuple [.int (P.1 : Nat), dVs P.2.1, dVs P.2.2]
def dGens (G : FM.Gens) : PyData := .tuple [dVs G.points, dVs G.rays, dVs G.lines]
def dOpt : Option FM.Poly → PyData
  | none => .none
  | some P => dPoly P
/-- vectors of a space of n dimensions, small, at most k -/
structure Sm (n k : Nat) (X : List (List Int)) : Prop where
  len : FM.Lens (n + 1) X
  bd : ∀ x ∈ X, Bd 800 x
  cnt : X.length ≤ k
theorem Sm.app {n j k : Nat} {X Y : List (List Int)} (h : Sm n j X) (h2 : Sm n k Y) : Sm n (j + k) (X ++ Y) where
  len := FM.lens_app h.len h2.len
  bd := fun x hx => (List.mem_append.mp hx).elim (h.bd x) (h2.bd x)
  cnt := by rw [List.length_append]; have := h.cnt; have := h2.cnt; omega
theorem Sm.mono {n j k : Nat} {X : List (List Int)} (h : Sm n j X) (e : j ≤ k) : Sm n k X := ⟨h.len, h.bd, Nat.le_trans h.cnt e⟩
theorem Sm.sub {n k : Nat} {X Y : List (List Int)} (h : Sm n k X) (e : ∀ y ∈ Y, y ∈ X) (l : Y.length ≤ X.length) : Sm n k Y := ⟨fun y hy => h.len y (e y hy), fun y hy => h.bd y (e y hy), Nat.le_trans l h.cnt⟩
theorem sm_horizon (n : Nat) : Sm n 1 [FM.horizon n] where
  len := fun x hx => by obtain rfl : x = _ := by simpa using hx
                        exact FM.horizon_len n
  bd := fun x hx => by
    obtain rfl : x = _ := by simpa using hx
    intro y hy
    unfold FM.horizon FM.zeros at hy
    rcases List.mem_cons.mp hy with rfl | hy
    · exact Nat.lt_of_lt_of_le (by decide : (1 : Int).natAbs < 2 ^ 1) (Nat.pow_le_pow_right (by decide) (by decide))
    · obtain ⟨_, rfl⟩ := List.mem_replicate.mp hy
      exact Nat.two_pow_pos 800
  cnt := by simp
theorem f_dual {n : Nat} {E D : List (List Int)} (hn : n = 1 ∨ n = 2) (hE : Sm n 100 E) (hD : Sm n 100 D) : F_dual [dVs E, dVs D, .int ((n + 1 : Nat) : Int)] (.tuple [dVs (FM.dual E D (n + 1)).1, dVs (FM.dual E D (n + 1)).2]) :=
  ⟨n + 1, 800, E, D, rfl, by omega, hE.len, hD.len, hE.bd, hD.bd, by decide, by decide, hE.cnt, hD.cnt, rfl⟩
abbrev n_check_count : List Str := ["n"]
theorem sc_check_count : FnScope n_check_count ["n"] (defScope (top 19)) := ⟨rfl, rfl, rfl, by decide +kernel, rfl, by decide +kernel, by decide +kernel⟩
def F_check (ds : List PyData) (r : PyData) : Prop := ∃ n : Nat, n ≤ 8 ∧ ds = [.int (n : Nat)] ∧ r = .none
theorem D_check (h : Has K mg "check_count" (top 19)) {t : Tok} (m_MAX_VARIABLES : mg "MAX_VARIABLES" = some (.int 8 t)) : Dn P w K mg base 1 "check_count" ["n"] (SpD K T 1 F_check) := by
  have nd := sc_check_count.nd
  refine mkD (m := 0) h sc_check_count rfl rfl (fun _ _ _ _ _ _ us hl => match us, hl with | [_], _ => rfl) fun f cdv A outer s H E hr => ⟨_, pss_one (ps_if (pt_not (pt_chain op_le op_le (pe_int) (pv 0) (pe_glob (v := V.int 8) rfl m_MAX_VARIABLES ⟨_, rfl⟩))) (pss_one (ps_never)) (pss_nil)), ?_⟩
  rintro ds r ⟨n, hn, rfl, rfl⟩ _
  refine .inr ⟨rfl, _, run_if (b := false) ?_ (fun q => by cases q) (fun _ => run_next)⟩
  refine et_eq (et_not (et_test (ev_chain (b := true) (c := true) (ev_int (i := 0)) (ev_var (i := 0) rfl) ?_ (fun _ => ev_int (i := 8)) (fun _ => ?_)))) rfl
  · have : decide ((0 : Int) ≤ (n : Int)) = true := by simp
    exact this ▸ op_leI
  · have : decide ((n : Int) ≤ (8 : Int)) = true := by simp; omega
    exact this ▸ op_leI
abbrev n_horizon : List Str := ["n"]
theorem sc_horizon : FnScope n_horizon ["n"] (defScope (top 20)) := ⟨rfl, rfl, rfl, by decide +kernel, rfl, by decide +kernel, by decide +kernel⟩
def F_horizon (ds : List PyData) (r : PyData) : Prop := ∃ n : Nat, n ≤ 8 ∧ ds = [.int (n : Nat)] ∧ r = dV (FM.horizon n)
theorem D_horizon (h : Has K mg "horizon" (top 20)) : Dn P w K mg base 1 "horizon" ["n"] (SpD K T 1 F_horizon) := by
  have nd := sc_horizon.nd
  refine mkD (m := 0) h sc_horizon rfl rfl (fun _ _ _ _ _ _ us hl => match us, hl with | [_], _ => rfl) fun f cdv A outer s H E hr => ⟨_, pss_one (ps_ret (pe_op op_cat (pe_lst (pa_cons (pe_int) pa_nil)) (pe_op op_rep (pe_lst (pa_cons (pe_int) pa_nil)) (pv 0)))), ?_⟩
  rintro ds r ⟨n, hn, rfl, rfl⟩ _
  refine .inl (run_ret (ev_eq (en_cat (en_lst (ea_cons ev_int ea_nil) (by simp)).e (en_rep (en_lst (ea_cons ev_int ea_nil) (by simp)).e (ev_var (i := 0) rfl) (by omega)).e (by simp; omega)).e ?_))
  simp [dV, FM.horizon, FM.zeros]
abbrev n_settled : List Str := ["n", "lines", "rays", "equations", "facets", "facet"]
theorem sc_settled : FnScope n_settled ["n", "lines", "rays"] (defScope (top 21)) := ⟨rfl, rfl, rfl, by decide +kernel, rfl, by decide +kernel, by decide +kernel⟩
def F_settled (ds : List PyData) (r : PyData) : Prop := ∃ (n : Nat) (L R : List (List Int)), ds = [.int (n : Nat), dVs L, dVs R] ∧ (n = 1 ∨ n = 2) ∧ Sm n 100 L ∧ Sm n 100 R ∧ r = dPoly (FM.settled n L R)
theorem D_settled (h : Has K mg "settled" (top 21)) (d1 : Dn P w K mg base 11 "dual" ["equations", "conditions", "size"] (SpD K T 3 F_dual)) (d2 : Dn P w K mg base 1 "horizon" ["n"] (SpD K T 1 F_horizon)) : Dn P w K mg base 12 "settled" ["n", "lines", "rays"] (SpD K T 3 F_settled) := by
  have nd := sc_settled.nd
  obtain ⟨_, _, G_dual, m_dual, k_dual, b_dual⟩ := d1
  obtain ⟨_, _, G_horizon, m_horizon, k_horizon, b_horizon⟩ := d2
  refine mkD (m := 3) h sc_settled rfl rfl (fun _ _ _ _ _ _ us hl => match us, hl with | [_, _, _], _ => rfl) fun f cdv A outer s H E hr => ⟨_, pss_cons (ps_asg (pe_call G_dual (hr.mono (by decide)) (by rfl) m_dual k_dual b_dual .nil pass0 (pa_cons (pv 1) (pa_cons (pv 2) (pa_cons (pe_op op_add (pv 0) (pe_int)) pa_nil)))) (pg_tup rfl (pgs_cons (pg_name (i := 3) nd rfl (Or.inl rfl)) (pgs_cons (pg_name (i := 4) nd rfl (Or.inl rfl)) pgs_nil)))) (pss_one (ps_ret (pe_tup (pa_cons (pv 0) (pa_cons (pv 3) (pa_cons (pe_lc (own := [("facet", 5)]) rfl nd (pi_list (pv 4)) (blkOk_by (own := [("facet", 5)]) (N := n_settled) (sc := defScope (top 21)) (by decide +kernel)) (fun _ _ _ _ _ => pg_name (i := 5) nd rfl (Or.inl rfl)) (fun _ _ _ _ _ => pts_one (pt_cmpR (op_neDK (K := K) rfl (hu64 hr)) (pv 5) (pe_call G_horizon (hr.mono (by decide)) (by rfl) m_horizon k_horizon b_horizon .nil pass0 (pa_cons (pv 0) pa_nil)) (nomark _))) (fun _ _ _ _ _ => pv 5)) pa_nil)))))), ?_⟩
  rintro ds r ⟨n, L, R, rfl, hn, hL, hR, rfl⟩ _
  refine .inl ?_
  have dc := FM.dual_count (n := n + 1) (by omega) hL.len hR.len
  have fd := f_dual hn hL hR
  unfold FM.settled dPoly
  have cnt := hR.cnt
  generalize FM.dual L R (n + 1) = d at dc fd ⊢
  refine run_seq (run_asg (ev_call (ea_cons (ev_var (i := 1) rfl) (ea_cons (ev_var (i := 2) rfl) (ea_cons (ev_op (ev_var (i := 0) rfl) (ev_int (i := 1)) op_add) ea_nil))) fd rfl) (tg_tup (tgs_cons (tg_name (by simp [args])) (tgs_cons (tg_name (by simp [args])) tgs_nil)) rfl)) ?_
  refine run_ret (ev_tup (ea_cons (ev_var (i := 0) rfl) (ea_cons (ev_var (i := 3) rfl) (ea_cons (ev_eq (en_filter (ei_list (ev_var (i := 4) rfl)) (fun z => unV z != FM.horizon n) (fun z => z) (vs := [5]) (by simp [args]) (fun z => [.d (.int (n : Nat)), .d (dVs L), .d (dVs R), .d (dVs d.1), .d (dVs d.2), .d z]) (by simp; omega) (ws := [5]) (by simp) (fun z hz => tg_name (by simp [wipeE, args])) (fun z hz => ?_) (fun z hz _ => ev_var (i := 5) rfl)).e ?_) ea_nil))) (by simp))
  · obtain ⟨v, _, rfl⟩ := List.mem_map.mp hz
    refine et_eq (et_test (ev_op (ev_var (i := 5) rfl) (ev_call (ea_cons (ev_var (i := 0) rfl) ea_nil) ⟨n, by omega, rfl, rfl⟩ rfl) (op_neDat (shaped_dV _) (shaped_dV _)))) ?_
    rw [eqv_dV, unV_dV]
    by_cases q : v = FM.horizon n <;> simp [q]
  · simp [dVs, List.filter_map, Function.comp_def]
/-- a def with defaults, all of them () -/
def HasDf (K : PySem.W.Frag) (mg : Str → Option Value) (x : Str) (st : Stmt) (d : Nat) : Prop := ∃ f fd dvs, FunD K x x (defArgs st) (defBody st) (defScope st) dvs [] f fd ∧ mg x = some (.ref f) ∧ dvs.length = d ∧ dvs ≠ [] ∧ ∀ v ∈ dvs, ∃ a : Addr, v = V.ref a ∧ ∀ H, SqT K H a []
def DnD (P : Program) (w : World) (K : PySem.W.Frag) (mg : Str → Option Value) (base : Heap) (k : Nat) (x : Str) (ps : List Str) (sp : Sp) (d : Nat) : Prop :=
  ∃ f fd, FnOk P w K mg base CX0 k f fd ps sp ∧ mg x = some (.ref f) ∧ PySem.W.keepIn K (.ref f) = true ∧ Binds K fd ps [] ∧ ∃ dvs ds, Vals dvs ds ∧ Binds K fd ps ds ∧ ∀ (Av : Avs) H, DAll K Av H dvs (List.replicate d (.tuple []))
theorem dall_units {Av : Avs} {H : Hp} : ∀ {dvs : List V}, (∀ v ∈ dvs, ∃ a : Addr, v = V.ref a ∧ ∀ H, SqT K H a []) → DAll K Av H dvs (List.replicate dvs.length (.tuple []))
  | [], _ => .nil
  | v :: dvs, h => by
    obtain ⟨a, rfl, ha⟩ := h v (by simp)
    exact .cons (.unit ha) (dall_units fun x hx => h x (by simp [hx]))
theorem mkDf {x : Str} {st : Stmt} {N ps : List Str} {k n m d : Nat} {F : List PyData → PyData → Prop} (h : HasDf K mg x st d) (S : FnScope N ps (defScope st)) (hp : ps.length = n) (hN : N.length = n + m)
    (bindA : ∀ (T : Addr) (kV doc pm : Value) (an : Option Addr) (cdv ct : Value) (us its : List Value), us.length = n → its.length = d → ∃ k, bindArgs (PySem.W.fnOf x x (defArgs st) (defBody st) (defScope st) (.ref T) kV doc pm an cdv ct) ⟨us, []⟩ = seqItems? (.ref T) >>= k ∧ k (some its.toArray) = pure (ps.zip (us ++ its.drop d)))
    (bindD : ∀ (T : Addr) (kV doc pm : Value) (an : Option Addr) (cdv ct : Value) (us its : List Value), us.length = n - d → its.length = d → ∃ k, bindArgs (PySem.W.fnOf x x (defArgs st) (defBody st) (defScope st) (.ref T) kV doc pm an cdv ct) ⟨us, []⟩ = seqItems? (.ref T) >>= k ∧ k (some its.toArray) = pure (ps.zip (us ++ its.drop 0))) (hdn : d ≤ n)
    (body : ∀ (f : Addr) (cdv : Value) (A : Around) (outer : List Env) (s : Shared) (H : Hp) (E : XK), Room k (A.deeper (envOfC x (defScope st) s.heap.objs.size f cdv)) →
      ∃ t, PSs (cxOf CX0 P w K mg base N x (defScope st) f cdv A outer s H E).nox (defBody st) t ∧ ∀ ds r, F ds r → ds.length = n → Run K T t (args ds m) (.ret r) ∨ (r = .none ∧ ∃ e, Run K T t (args ds m) (.nx e))) :
    DnD P w K mg base (k + 1) x ps (SpD K T n F) d := by
  obtain ⟨f, fd, dvs, Fd, hm, hl, hne, hu⟩ := h
  obtain ⟨ds1, r1, b1⟩ := Fd.binds1 (ps := ps) n d hne (by omega) (fun T kV doc pm an cdv ct us its h1 h2 => bindA T kV doc pm an cdv ct us its h1 (h2.trans hl))
  obtain ⟨ds2, r2, b2⟩ := Fd.binds1 (ps := ps) (n - d) 0 hne (by omega) (fun T kV doc pm an cdv ct us its h1 h2 => bindD T kV doc pm an cdv ct us its h1 (h2.trans hl))
  have e1 : ds1 = [] := by
    rw [List.drop_eq_nil_of_le (by omega)] at r1
    cases r1; rfl
  rw [List.drop_zero] at r2
  subst e1
  refine ⟨f, fd, Fd.ok S (fun vs H Q E h => ?_) (fun cdv A outer s H vs Q E hr h => ?_), hm, Fd.kp, b1, dvs, ds2, r2, b2, fun Av H => hl ▸ dall_units hu⟩
  · obtain ⟨_, _, _, _, hl, _⟩ := h
    exact hl.trans hp.symm
  · obtain ⟨t, ht, hrun⟩ := body f cdv A outer s H E hr
    exact ⟨t, ht.nox, run_def hN hrun h⟩
/-- list(..) of a list, of the empty tuple -/
inductive AsList : PyData → List (List Int) → Prop
  | list (X : List (List Int)) : AsList (dVs X) X
  | unit : AsList (.tuple []) []
theorem ev_asList {env : En} {te : TE} {x : PyData} {X : List (List Int)} (h : EvE K T te env x) (a : AsList x X) : EvE K T (tCB (fun vs H Q => ∃ p ys, vs = [.ref p] ∧ (SqL K H p ys ∨ SqT K H p ys) ∧ ∀ l, H l = none → Q (.ref l) (upd H l (.lst ys))) (tCons te tNil)) env (dVs X) := by
  cases a with
  | list X => exact (en_list h).e
  | unit => exact (en_listT h).e
/-- what polyhedron needs: its data are small, and what it makes of them -/
structure PolyOk (n : Nat) (D E : List (List Int)) : Prop where
  n12 : n = 1 ∨ n = 2
  conds : Sm n 90 D
  eqs : Sm n 90 E
  mid1 : Sm n 100 (FM.dual E (D ++ [FM.horizon n]) (n + 1)).1
  mid2 : Sm n 100 (FM.dual E (D ++ [FM.horizon n]) (n + 1)).2
abbrev n_polyhedron : List Str := ["n", "conditions", "equations", "lines", "rays", "ray"]
theorem sc_polyhedron : FnScope n_polyhedron ["n", "conditions", "equations"] (defScope (top 22)) := ⟨rfl, rfl, rfl, by decide +kernel, rfl, by decide +kernel, by decide +kernel⟩
def F_polyhedron (ds : List PyData) (r : PyData) : Prop := ∃ (n : Nat) (D E : List (List Int)) (x : PyData), ds = [.int (n : Nat), dVs D, x] ∧ AsList x E ∧ PolyOk n D E ∧ r = dOpt (FM.polyhedron n D E)
theorem D_polyhedron (h : HasDf K mg "polyhedron" (top 22) 1) (d1 : Dn P w K mg base 11 "dual" ["equations", "conditions", "size"] (SpD K T 3 F_dual)) (d2 : Dn P w K mg base 1 "horizon" ["n"] (SpD K T 1 F_horizon)) (d3 : Dn P w K mg base 1 "check_count" ["n"] (SpD K T 1 F_check)) (d4 : Dn P w K mg base 12 "settled" ["n", "lines", "rays"] (SpD K T 3 F_settled)) (m_list : mg "list" = none) (m_all : mg "all" = none) :
    DnD P w K mg base 13 "polyhedron" ["n", "conditions", "equations"] (SpD K T 3 F_polyhedron) 1 := by
  have nd := sc_polyhedron.nd
  obtain ⟨_, _, G_dual, m_dual, k_dual, b_dual⟩ := d1
  obtain ⟨_, _, G_horizon, m_horizon, k_horizon, b_horizon⟩ := d2
  obtain ⟨_, _, G_check_count, m_check_count, k_check_count, b_check_count⟩ := d3
  obtain ⟨_, _, G_settled, m_settled, k_settled, b_settled⟩ := d4
  refine mkDf (k := 12) (n := 3) (m := 3) h sc_polyhedron rfl rfl (fun _ _ _ _ _ _ _ us its h1 h2 => match us, its, h1, h2 with | [_, _, _], [_], _, _ => ⟨_, rfl, rfl⟩) (fun _ _ _ _ _ _ _ us its h1 h2 => match us, its, h1, h2 with | [_, _], [_], _, _ => ⟨_, rfl, rfl⟩) (by decide) fun f cdv A outer s H E hr => ⟨_, pss_cons (ps_expr (pe_call G_check_count (hr.mono (by decide)) (by rfl) m_check_count k_check_count b_check_count .nil pass0 (pa_cons (pv 0) pa_nil))) (pss_cons (ps_asg (pe_call G_dual (hr.mono (by decide)) (by rfl) m_dual k_dual b_dual .nil pass0 (pa_cons (pe_callTy call_list_of (by rfl) m_list (by decide +kernel) (pa_cons (pv 2) pa_nil)) (pa_cons (pe_op op_cat (pe_callTy call_list_of (by rfl) m_list (by decide +kernel) (pa_cons (pv 1) pa_nil)) (pe_lst (pa_cons (pe_call G_horizon (hr.mono (by decide)) (by rfl) m_horizon k_horizon b_horizon .nil pass0 (pa_cons (pv 0) pa_nil)) pa_nil))) (pa_cons (pe_op op_add (pv 0) (pe_int)) pa_nil)))) (pg_tup rfl (pgs_cons (pg_name (i := 3) nd rfl (Or.inl rfl)) (pgs_cons (pg_name (i := 4) nd rfl (Or.inl rfl)) pgs_nil)))) (pss_cons (ps_if (pt_val (pe_callB (cr_all rfl) (by rfl) m_all (by decide +kernel) (by exact (pa_cons (pe_lc (own := [("ray", 5)]) rfl nd (pi_list (pv 4)) (blkOk_by (own := [("ray", 5)]) (N := n_polyhedron) (sc := defScope (top 22)) (by decide +kernel)) (fun _ _ _ _ _ => pg_name (i := 5) nd rfl (Or.inl rfl)) (fun _ _ _ _ _ => pts_nil) (fun _ _ _ _ _ => pe_cmpR op_eq (pe_ix (ix_listK (K := K) rfl) (pv 5) (pe_int) (fun _ _ => rfl)) (pe_int) (nomark _))) pa_nil)))) (pss_one (ps_ret (pe_non))) (pss_nil)) (pss_one (ps_ret (pe_call G_settled (hr.mono (by decide)) (by rfl) m_settled k_settled b_settled .nil pass0 (pa_cons (pv 0) (pa_cons (pv 3) (pa_cons (pv 4) pa_nil)))))))), ?_⟩
  rintro ds r ⟨n, D, E, x, rfl, hx, ok, rfl⟩ _
  refine .inl ?_
  have hn := ok.n12
  have dc := FM.dual_count (n := n + 1) (by omega) ok.eqs.len (ok.conds.app (sm_horizon n)).len
  have fd := f_dual hn (ok.eqs.mono (by omega)) ((ok.conds.app (sm_horizon n)).mono (by omega))
  have m1 := ok.mid1
  have m2 := ok.mid2
  unfold FM.polyhedron
  generalize FM.dual E (D ++ [FM.horizon n]) (n + 1) = d at dc fd m1 m2 ⊢
  refine run_seq (run_drop (ev_call (ea_cons (ev_var (i := 0) rfl) ea_nil) ⟨n, by omega, rfl, rfl⟩ rfl)) ?_
  refine run_seq (run_asg (ev_call (ea_cons (ev_asList (ev_var (i := 2) rfl) hx) (ea_cons (ev_eq (en_cat (en_list (ev_var (i := 1) rfl)).e (en_lst (ea_cons (ev_call (ea_cons (ev_var (i := 0) rfl) ea_nil) ⟨n, by omega, rfl, rfl⟩ rfl) ea_nil) (by simp)).e ?_).e ?_) (ea_cons (ev_op (ev_var (i := 0) rfl) (ev_int (i := 1)) op_add) ea_nil))) fd rfl) (tg_tup (tgs_cons (tg_name (by simp [args])) (tgs_cons (tg_name (by simp [args])) tgs_nil)) rfl)) ?_
  · have := ok.conds.cnt; simp; omega
  · simp [dVs]
  have tst : EvE K T (tLc (iList K (tVar 4)) (gName 5) tYes (tOp rEq (tOp (rIxL K) (tVar 5) (tC (.int 0))) (tC (.int 0))) [5]) [.d (.int (n : Nat)), .d (dVs D), .d x, .d (dVs d.1), .d (dVs d.2), .un] (.list ((d.2.map fun r => FM.col r 0 == 0).map PyData.bool)) := by
    refine ev_eq (en_map (ei_list (ev_var (i := 4) rfl)) (fun z => .bool (FM.col (unV z) 0 == 0)) (vs := [5]) (by simp) (fun z => [.d (.int (n : Nat)), .d (dVs D), .d x, .d (dVs d.1), .d (dVs d.2), .d z]) (by have := m2.cnt; simp; omega) (ws := [5]) (by simp) (fun z hz => tg_name (by simp [wipeE])) (fun z hz => ?_)).e (by rw [List.map_map, List.map_map]; congr 1; exact List.map_congr_left fun o _ => by simp)
    obtain ⟨v, hv, rfl⟩ := List.mem_map.mp hz
    rw [unV_dV]
    refine ev_eq (ev_op (ev_op (ev_var (i := 5) rfl) (ev_int (i := 0)) (op_ixL (i := 0) (at_nat (i := 0) (get_dV (by rw [m2.len v hv]; omega))))) (ev_int (i := 0)) op_eqI) ?_
    by_cases q : FM.col v 0 = 0 <;> simp [q]
  have al : ((d.2.map fun r => FM.col r 0 == 0).all id) = d.2.all fun r => FM.col r 0 == 0 := by rw [List.all_map]; rfl
  have tt : EvT K T _ [.d (.int (n : Nat)), .d (dVs D), .d x, .d (dVs d.1), .d (dVs d.2), .un] (d.2.all fun r => FM.col r 0 == 0) := et_eq (et_B (ev_all tst)) al
  by_cases q : (d.2.all fun r => FM.col r 0 == 0) = true
  · rw [if_pos q]
    exact run_seqR (run_if tt (fun _ => run_ret ev_non) (fun z => by rw [q] at z; cases z))
  · rw [if_neg q]
    refine run_seq (run_if tt (fun z => absurd z q) (fun _ => run_next)) ?_
    exact run_ret (ev_call (ea_cons (ev_var (i := 0) rfl) (ea_cons (ev_var (i := 3) rfl) (ea_cons (ev_var (i := 4) rfl) ea_nil))) ⟨n, d.1, d.2, rfl, hn, m1, m2, rfl⟩ rfl)
end FD
end
section
set_option Elab.async false
set_option linter.all false
set_option maxRecDepth 100000
set_option maxHeartbeats 4000000
/-! generators .. extended -/
namespace FD
open PySem PySem.Spec PyProof.Rows L2 LamX FW FT FK
variable {P : Program} {w : World} {K : PySem.W.Frag} {mg : Str → Option Value} {base : Heap} {T : List (Addr × Str)} {C : Addr}
abbrev n_generators : List Str := ["region", "n", "equations", "facets", "lines", "rays", "points", "ray"]
theorem sc_generators : FnScope n_generators ["region"] (defScope (top 23)) := ⟨rfl, rfl, rfl, by decide +kernel, rfl, by decide +kernel, by decide +kernel⟩
def F_generators (ds : List PyData) (r : PyData) : Prop := ∃ (n : Nat) (P : FM.Poly), ds = [dPoly P] ∧ P.1 = n ∧ (n = 1 ∨ n = 2) ∧ Sm n 90 P.2.1 ∧ Sm n 90 P.2.2 ∧ r = dGens (FM.generators P)
theorem D_generators (h : Has K mg "generators" (top 23)) (d1 : Dn P w K mg base 11 "dual" ["equations", "conditions", "size"] (SpD K T 3 F_dual)) (d2 : Dn P w K mg base 1 "horizon" ["n"] (SpD K T 1 F_horizon)) : Dn P w K mg base 12 "generators" ["region"] (SpD K T 1 F_generators) := by
  have nd := sc_generators.nd
  obtain ⟨_, _, G_dual, m_dual, k_dual, b_dual⟩ := d1
  obtain ⟨_, _, G_horizon, m_horizon, k_horizon, b_horizon⟩ := d2
  refine mkD (m := 7) h sc_generators rfl rfl (fun _ _ _ _ _ _ us hl => match us, hl with | [_], _ => rfl) fun f cdv A outer s H E hr => ⟨_, pss_cons (ps_asg (pv 0) (pg_tup rfl (pgs_cons (pg_name (i := 1) nd rfl (Or.inl rfl)) (pgs_cons (pg_name (i := 2) nd rfl (Or.inl rfl)) (pgs_cons (pg_name (i := 3) nd rfl (Or.inl rfl)) pgs_nil))))) (pss_cons (ps_asg (pe_call G_dual (hr.mono (by decide)) (by rfl) m_dual k_dual b_dual .nil pass0 (pa_cons (pv 2) (pa_cons (pe_op op_cat (pv 3) (pe_lst (pa_cons (pe_call G_horizon (hr.mono (by decide)) (by rfl) m_horizon k_horizon b_horizon .nil pass0 (pa_cons (pv 1) pa_nil)) pa_nil))) (pa_cons (pe_op op_add (pv 1) (pe_int)) pa_nil)))) (pg_tup rfl (pgs_cons (pg_name (i := 4) nd rfl (Or.inl rfl)) (pgs_cons (pg_name (i := 5) nd rfl (Or.inl rfl)) pgs_nil)))) (pss_cons (ps_setLc (i := 6) (own := [("ray", 7)]) rfl nd rfl rfl (sw_true rfl rfl rfl (by decide +kernel)) (pi_list (pv 5)) (blkOk_by (own := [("ray", 7)]) (N := n_generators) (sc := defScope (top 23)) (by decide +kernel)) (fun _ _ _ _ _ => pg_name (i := 7) nd rfl (Or.inl rfl)) (fun _ _ _ _ _ => pts_one (pt_cmpR op_gt (pe_ix (ix_listK (K := K) rfl) (pv 7) (pe_int) (fun _ _ => rfl)) (pe_int) (nomark _))) (fun _ _ _ _ _ => pv 7)) (pss_one (ps_ret (pe_tup (pa_cons (pv 6) (pa_cons (pe_lc (own := [("ray", 7)]) rfl nd (pi_list (pv 5)) (blkOk_by (own := [("ray", 7)]) (N := n_generators) (sc := defScope (top 23)) (by decide +kernel)) (fun _ _ _ _ _ => pg_name (i := 7) nd rfl (Or.inl rfl)) (fun _ _ _ _ _ => pts_one (pt_cmpR op_eq (pe_ix (ix_listK (K := K) rfl) (pv 7) (pe_int) (fun _ _ => rfl)) (pe_int) (nomark _))) (fun _ _ _ _ _ => pv 7)) (pa_cons (pv 4) pa_nil)))))))), ?_⟩
  rintro ds r ⟨n, ⟨n', Eq, Fa⟩, rfl, rfl, hn, hE, hF, rfl⟩ _
  refine .inl ?_
  replace hn : n' = 1 ∨ n' = 2 := hn
  replace hE : Sm n' 90 Eq := hE
  replace hF : Sm n' 90 Fa := hF
  have sF := hF.app (sm_horizon n')
  have dc := FM.dual_count (n := n' + 1) (by omega) hE.len sF.len
  have cone := (FM.dual_cone hE.len sF.len).1
  have fd := f_dual hn (hE.mono (by omega)) (sF.mono (by omega))
  have lr := cone.lenr
  have sc := sF.cnt
  unfold FM.generators dGens
  simp only
  generalize FM.dual Eq (Fa ++ [FM.horizon n']) (n' + 1) = d at dc fd lr ⊢
  have hFc := hF.cnt
  refine run_seq (run_asg (ev_var (i := 0) rfl) (tg_tup (tgs_cons (tg_name (by simp [args])) (tgs_cons (tg_name (by simp [args])) (tgs_cons (tg_name (by simp [args])) tgs_nil))) rfl)) ?_
  refine run_seq (run_asg (ev_call (ea_cons (ev_var (i := 2) rfl) (ea_cons (ev_eq (en_cat (ev_var (i := 3) rfl) (en_lst (ea_cons (ev_call (ea_cons (ev_var (i := 1) rfl) ea_nil) ⟨n', by omega, rfl, rfl⟩ rfl) ea_nil) (by simp)).e ?_).e ?_) (ea_cons (ev_op (ev_var (i := 1) rfl) (ev_int (i := 1)) op_add) ea_nil))) fd rfl) (tg_tup (tgs_cons (tg_name (by simp [args])) (tgs_cons (tg_name (by simp [args])) tgs_nil)) rfl)) ?_
  · simp; omega
  · simp [dVs]
  have flt : ∀ (env : En) (p : List Int → Bool) (r : R2) (x0 : List PyData), env[5]? = some (.d (dVs d.2)) → 7 < env.length → (∀ v ∈ d.2, OpD K T r (.int (FM.col v 0)) (.int 0) (.bool (p v))) → EvE K T (tLc (iList K (tVar 5)) (gName 7) (tTest (tOp r (tOp (rIxL K) (tVar 7) (tC (.int 0))) (tC (.int 0)))) (tVar 7) [7]) env (dVs (d.2.filter p)) := fun env p r x0 h5 h7 hp => by
    refine ev_eq (en_filter (ei_list (ev_var (i := 5) h5)) (fun z => p (unV z)) (fun z => z) (vs := [7]) (by simp; exact h7) (fun z => (env.set 7 .un).set 7 (.d z)) (by simp; omega) (ws := [7]) (by simp) (fun z hz => ?_) (fun z hz => ?_) (fun z hz _ => ev_var (i := 7) (by simp [h7]))).e ?_
    · exact tg_name (by simp [wipeE]; exact h7)
    · obtain ⟨v, hv, rfl⟩ := List.mem_map.mp hz
      rw [unV_dV]
      exact et_test (ev_op (ev_op (ev_var (i := 7) (x := dV v) (by simp [h7])) (ev_int (i := 0)) (op_ixL (i := 0) (at_nat (i := 0) (get_dV (by rw [lr v hv]; omega))))) (ev_int (i := 0)) (hp v hv))
    · simp [dVs, List.filter_map, Function.comp_def]
  refine run_seq (run_set (flt _ (fun v => decide (0 < FM.col v 0)) _ [] rfl (by simp [args]) (fun v _ => op_gtI)) (by simp [args])) ?_
  refine run_ret (ev_tup (ea_cons (ev_var (i := 6) rfl) (ea_cons (flt _ (fun v => FM.col v 0 == 0) _ [] rfl (by simp [args]) (fun v _ => ?_)) (ea_cons (ev_var (i := 4) rfl) ea_nil))) (by simp))
  have : (FM.col v 0 == 0) = decide (FM.col v 0 = 0) := by by_cases q : FM.col v 0 = 0 <;> simp [q]
  simp only [this]
  exact op_eqI
abbrev n_spanned : List Str := ["n", "points", "rays", "lines"]
theorem sc_spanned : FnScope n_spanned ["n", "points", "rays", "lines"] (defScope (top 24)) := ⟨rfl, rfl, rfl, by decide +kernel, rfl, by decide +kernel, by decide +kernel⟩
def F_spanned (ds : List PyData) (r : PyData) : Prop := ∃ (n : Nat) (A R L : List (List Int)) (x y : PyData), ds = [.int (n : Nat), dVs A, x, y] ∧ AsList x R ∧ AsList y L ∧ (n = 1 ∨ n = 2) ∧ Sm n 50 A ∧ Sm n 50 R ∧ Sm n 100 L ∧ A ≠ [] ∧ r = dPoly (FM.spanned n A R L)
theorem D_spanned (h : HasDf K mg "spanned" (top 24) 2) (d3 : Dn P w K mg base 1 "check_count" ["n"] (SpD K T 1 F_check)) (d4 : Dn P w K mg base 12 "settled" ["n", "lines", "rays"] (SpD K T 3 F_settled)) (m_list : mg "list" = none) (m_len : mg "len" = none) :
    DnD P w K mg base 13 "spanned" ["n", "points", "rays", "lines"] (SpD K T 4 F_spanned) 2 := by
  have nd := sc_spanned.nd
  obtain ⟨_, _, G_check_count, m_check_count, k_check_count, b_check_count⟩ := d3
  obtain ⟨_, _, G_settled, m_settled, k_settled, b_settled⟩ := d4
  refine mkDf (k := 12) (n := 4) (m := 0) h sc_spanned rfl rfl (fun _ _ _ _ _ _ _ us its h1 h2 => match us, its, h1, h2 with | [_, _, _, _], [_, _], _, _ => ⟨_, rfl, rfl⟩) (fun _ _ _ _ _ _ _ us its h1 h2 => match us, its, h1, h2 with | [_, _], [_, _], _, _ => ⟨_, rfl, rfl⟩) (by decide) fun f cdv A outer s H E hr => ⟨_, pss_cons (ps_expr (pe_call G_check_count (hr.mono (by decide)) (by rfl) m_check_count k_check_count b_check_count .nil pass0 (pa_cons (pv 0) pa_nil))) (pss_cons (ps_if (pt_cmpR op_eq (pe_callB call_len_seq (by rfl) m_len PySem.boot_len (pa_cons (pv 1) pa_nil)) (pe_int) (nomark _)) (pss_one (ps_never)) (pss_nil)) (pss_one (ps_ret (pe_call G_settled (hr.mono (by decide)) (by rfl) m_settled k_settled b_settled .nil pass0 (pa_cons (pv 0) (pa_cons (pe_callTy call_list_of (by rfl) m_list (by decide +kernel) (pa_cons (pv 3) pa_nil)) (pa_cons (pe_op op_cat (pe_callTy call_list_of (by rfl) m_list (by decide +kernel) (pa_cons (pv 1) pa_nil)) (pe_callTy call_list_of (by rfl) m_list (by decide +kernel) (pa_cons (pv 2) pa_nil))) pa_nil))))))), ?_⟩
  rintro ds r ⟨n, A, R, L, x, y, rfl, hx, hy, hn, hA, hR, hL, hne, rfl⟩ _
  refine .inl ?_
  refine run_seq (run_drop (ev_call (ea_cons (ev_var (i := 0) rfl) ea_nil) ⟨n, by omega, rfl, rfl⟩ rfl)) ?_
  refine run_seq (run_if (b := false) (et_eq (et_test (ev_op (ev_len (ev_var (i := 1) rfl)) (ev_int (i := 0)) op_eqI)) ?_) (fun q => by cases q) (fun _ => run_next)) ?_
  · cases A with
    | nil => exact absurd rfl hne
    | cons a A => simp; omega
  refine run_ret (ev_call (ea_cons (ev_var (i := 0) rfl) (ea_cons (ev_asList (ev_var (i := 3) rfl) hy) (ea_cons (ev_eq (en_cat (en_list (ev_var (i := 1) rfl)).e (ev_asList (ev_var (i := 2) rfl) hx) ?_).e ?_) ea_nil))) ⟨n, L, A ++ R, rfl, hn, hL, hA.app hR, rfl⟩ rfl)
  · have := hA.cnt; have := hR.cnt; simp; omega
  · simp [dVs]
abbrev n_has_point : List Str := ["region", "point", "_", "equations", "facets", "equation", "facet"]
theorem sc_has_point : FnScope n_has_point ["region", "point"] (defScope (top 25)) := ⟨rfl, rfl, rfl, by decide +kernel, rfl, by decide +kernel, by decide +kernel⟩
def F_has_point (ds : List PyData) (r : PyData) : Prop := ∃ (n : Nat) (P : FM.Poly) (p : List Int), ds = [dPoly P, dV p] ∧ n ≤ 2 ∧ Sm n 100 P.2.1 ∧ Sm n 100 P.2.2 ∧ Bd 300000 p ∧ r = .bool (FM.hasPoint P p)
theorem D_has_point (h : Has K mg "has_point" (top 25)) (d1 : Dn P w K mg base 1 "dot" ["first", "second"] (SpD K T 2 F_dot)) (m_all : mg "all" = none) : Dn P w K mg base 2 "has_point" ["region", "point"] (SpD K T 2 F_has_point) := by
  have nd := sc_has_point.nd
  obtain ⟨_, _, G_dot, m_dot, k_dot, b_dot⟩ := d1
  refine mkD (m := 5) h sc_has_point rfl rfl (fun _ _ _ _ _ _ us hl => match us, hl with | [_, _], _ => rfl) fun f cdv A outer s H E hr => ⟨_, pss_cons (ps_asg (pv 0) (pg_tup rfl (pgs_cons (pg_name (i := 2) nd rfl (Or.inl rfl)) (pgs_cons (pg_name (i := 3) nd rfl (Or.inl rfl)) (pgs_cons (pg_name (i := 4) nd rfl (Or.inl rfl)) pgs_nil))))) (pss_one (ps_ret (pe_and (pe_callB (cr_all rfl) (by rfl) m_all (by decide +kernel) (by exact (pa_cons (pe_lc (own := [("equation", 5)]) rfl nd (pi_list (pv 3)) (blkOk_by (own := [("equation", 5)]) (N := n_has_point) (sc := defScope (top 25)) (by decide +kernel)) (fun _ _ _ _ _ => pg_name (i := 5) nd rfl (Or.inl rfl)) (fun _ _ _ _ _ => pts_nil) (fun _ _ _ _ _ => pe_cmpR op_eq (pe_call G_dot (hr.mono (by decide)) (by rfl) m_dot k_dot b_dot .nil pass0 (pa_cons (pv 5) (pa_cons (pv 1) pa_nil))) (pe_int) (nomark _))) pa_nil))) (pe_one (pe_callB (cr_all rfl) (by rfl) m_all (by decide +kernel) (by exact (pa_cons (pe_lc (own := [("facet", 6)]) rfl nd (pi_list (pv 4)) (blkOk_by (own := [("facet", 6)]) (N := n_has_point) (sc := defScope (top 25)) (by decide +kernel)) (fun _ _ _ _ _ => pg_name (i := 6) nd rfl (Or.inl rfl)) (fun _ _ _ _ _ => pts_nil) (fun _ _ _ _ _ => pe_cmpR op_ge (pe_call G_dot (hr.mono (by decide)) (by rfl) m_dot k_dot b_dot .nil pass0 (pa_cons (pv 6) (pa_cons (pv 1) pa_nil))) (pe_int) (nomark _))) pa_nil))))))), ?_⟩
  rintro ds r ⟨n, ⟨n', Eq, Fa⟩, p, rfl, hn, hE, hF, hp, rfl⟩ _
  refine .inl ?_
  replace hE : Sm n 100 Eq := hE
  replace hF : Sm n 100 Fa := hF
  refine run_seq (run_asg (ev_var (i := 0) rfl) (tg_tup (tgs_cons (tg_name (by simp [args])) (tgs_cons (tg_name (by simp [args])) (tgs_cons (tg_name (by simp [args])) tgs_nil))) rfl)) ?_
  have lst : ∀ (env : En) (X : List (List Int)) (i j : Nat) (q : List Int → Bool) (r : R2), env[1]? = some (.d (dV p)) → env[i]? = some (.d (dVs X)) → j < env.length → j ≠ 1 → Sm n 100 X → (∀ v ∈ X, OpD K T r (.int (FM.dot v p)) (.int 0) (.bool (q v))) → EvE K T (tCB (rAll K) (tCons (tLc (iList K (tVar i)) (gName j) tYes (tOp r (tCall (SpD K T 2 F_dot) [] E0 (tCons (tVar j) (tCons (tVar 1) tNil))) (tC (.int 0))) [j]) tNil)) env (.bool (X.all q)) := fun env X i j q r h1 hi hj hj1 sx hr => by
    have al : ((X.map q).all id) = X.all q := by rw [List.all_map]; rfl
    refine ev_eq (ev_all (ns := X.map q) (ev_eq (en_map (ei_list (ev_var hi)) (fun z => .bool (q (unV z))) (vs := [j]) (by simp; exact hj) (fun z => (env.set j .un).set j (.d z)) (by have := sx.cnt; simp; omega) (ws := [j]) (by simp) (fun z hz => tg_name (by simp [wipeE]; exact hj)) (fun z hz => ?_)).e (by rw [List.map_map, List.map_map]; congr 1; exact List.map_congr_left fun o _ => by simp))) (by rw [al])
    obtain ⟨v, hv, rfl⟩ := List.mem_map.mp hz
    rw [unV_dV]
    exact ev_op (ev_call (ea_cons (ev_var (i := j) (x := dV v) (by simp [hj])) (ea_cons (ev_var (i := 1) (x := dV p) (by rw [List.getElem?_set_ne hj1, List.getElem?_set_ne hj1]; exact h1)) ea_nil)) ⟨v, p, rfl, (sx.bd v hv).mono (by decide), hp.mono (by decide), by rw [sx.len v hv]; omega, rfl⟩ rfl) (ev_int (i := 0)) (hr v hv)
  unfold FM.hasPoint
  refine run_ret (ev_and (lst _ Eq 3 5 (fun e => FM.dot e p == 0) _ rfl rfl (by simp [args]) (by decide) hE (fun v _ => ?_)) (fun _ => lst _ Fa 4 6 (fun f => decide (0 ≤ FM.dot f p)) _ rfl rfl (by simp [args]) (by decide) hF (fun v _ => op_geI)))
  have : (FM.dot v p == 0) = decide (FM.dot v p = 0) := by by_cases q : FM.dot v p = 0 <;> simp [q]
  simp only [this]
  exact op_eqI
abbrev n_meet : List Str := ["region", "other"]
theorem sc_meet : FnScope n_meet ["region", "other"] (defScope (top 26)) := ⟨rfl, rfl, rfl, by decide +kernel, rfl, by decide +kernel, by decide +kernel⟩
def F_meet (ds : List PyData) (r : PyData) : Prop := ∃ (P Q : FM.Poly), ds = [dPoly P, dPoly Q] ∧ PolyOk P.1 (P.2.2 ++ Q.2.2) (P.2.1 ++ Q.2.1) ∧ r = dOpt (FM.meet P Q)
theorem D_meet (h : Has K mg "meet" (top 26)) (d1 : DnD P w K mg base 13 "polyhedron" ["n", "conditions", "equations"] (SpD K T 3 F_polyhedron) 1) : Dn P w K mg base 14 "meet" ["region", "other"] (SpD K T 2 F_meet) := by
  have nd := sc_meet.nd
  obtain ⟨_, _, G_polyhedron, m_polyhedron, k_polyhedron, b_polyhedron, _⟩ := d1
  refine mkD (m := 0) h sc_meet rfl rfl (fun _ _ _ _ _ _ us hl => match us, hl with | [_, _], _ => rfl) fun f cdv A outer s H E hr => ⟨_, pss_one (ps_ret (pe_call G_polyhedron (hr.mono (by decide)) (by rfl) m_polyhedron k_polyhedron b_polyhedron .nil pass0 (pa_cons (pe_ix ix_tup (pv 0) (pe_int) (fun _ _ => rfl)) (pa_cons (pe_op op_cat (pe_ix ix_tup (pv 0) (pe_int) (fun _ _ => rfl)) (pe_ix ix_tup (pv 1) (pe_int) (fun _ _ => rfl))) (pa_cons (pe_op op_cat (pe_ix ix_tup (pv 0) (pe_int) (fun _ _ => rfl)) (pe_ix ix_tup (pv 1) (pe_int) (fun _ _ => rfl))) pa_nil))))), ?_⟩
  rintro ds r ⟨⟨n, E1, F1⟩, ⟨n2, E2, F2⟩, rfl, ok, rfl⟩ _
  refine .inl ?_
  have c1 := ok.conds.cnt
  have c2 := ok.eqs.cnt
  simp only [List.length_append] at c1 c2
  refine run_ret (ev_call (ea_cons (ev_op (ev_var (i := 0) rfl) (ev_int (i := 0)) (op_ixT (i := 0) (at_nat (i := 0) rfl))) (ea_cons (ev_eq (en_cat (ev_op (ev_var (i := 0) rfl) (ev_int (i := 2)) (op_ixT (i := 2) (at_nat (i := 2) rfl))) (ev_op (ev_var (i := 1) rfl) (ev_int (i := 2)) (op_ixT (i := 2) (at_nat (i := 2) rfl))) (by simp; omega)).e (by rw [← List.map_append]; rfl)) (ea_cons (ev_eq (en_cat (ev_op (ev_var (i := 0) rfl) (ev_int (i := 1)) (op_ixT (i := 1) (at_nat (i := 1) rfl))) (ev_op (ev_var (i := 1) rfl) (ev_int (i := 1)) (op_ixT (i := 1) (at_nat (i := 1) rfl))) (by simp; omega)).e (by rw [← List.map_append]; rfl)) ea_nil))) ⟨n, F1 ++ F2, E1 ++ E2, _, rfl, .list _, ok, rfl⟩ rfl)
/-- what extended needs -/
structure ExtOk (n : Nat) (P : FM.Poly) (D : List (List Int)) : Prop where
  n12 : n = 1 ∨ n = 2
  en : P.1 = n
  eqs : Sm n 90 P.2.1
  fac : Sm n 90 P.2.2
  pts : Sm n 50 (FM.generators P).points
  rays : Sm n 40 (FM.generators P).rays
  lines : Sm n 100 (FM.generators P).lines
  dirs : Sm n 10 D
  ne : (FM.generators P).points ≠ []
abbrev n_extended : List Str := ["region", "directions", "points", "rays", "lines"]
theorem sc_extended : FnScope n_extended ["region", "directions"] (defScope (top 27)) := ⟨rfl, rfl, rfl, by decide +kernel, rfl, by decide +kernel, by decide +kernel⟩
def F_extended (ds : List PyData) (r : PyData) : Prop := ∃ (n : Nat) (P : FM.Poly) (D : List (List Int)), ds = [dPoly P, dVs D] ∧ ExtOk n P D ∧ r = dPoly (FM.extended P D)
theorem D_extended (h : Has K mg "extended" (top 27)) (d1 : Dn P w K mg base 12 "generators" ["region"] (SpD K T 1 F_generators)) (d2 : DnD P w K mg base 13 "spanned" ["n", "points", "rays", "lines"] (SpD K T 4 F_spanned) 2) (m_list : mg "list" = none) : Dn P w K mg base 14 "extended" ["region", "directions"] (SpD K T 2 F_extended) := by
  have nd := sc_extended.nd
  obtain ⟨_, _, G_generators, m_generators, k_generators, b_generators⟩ := d1
  obtain ⟨_, _, G_spanned, m_spanned, k_spanned, b_spanned, _⟩ := d2
  refine mkD (m := 3) h sc_extended rfl rfl (fun _ _ _ _ _ _ us hl => match us, hl with | [_, _], _ => rfl) fun f cdv A outer s H E hr => ⟨_, pss_cons (ps_asg (pe_call G_generators (hr.mono (by decide)) (by rfl) m_generators k_generators b_generators .nil pass0 (pa_cons (pv 0) pa_nil)) (pg_tup rfl (pgs_cons (pg_name (i := 2) nd rfl (Or.inl rfl)) (pgs_cons (pg_name (i := 3) nd rfl (Or.inl rfl)) (pgs_cons (pg_name (i := 4) nd rfl (Or.inl rfl)) pgs_nil))))) (pss_one (ps_ret (pe_call G_spanned (hr.mono (by decide)) (by rfl) m_spanned k_spanned b_spanned .nil pass0 (pa_cons (pe_ix ix_tup (pv 0) (pe_int) (fun _ _ => rfl)) (pa_cons (pv 2) (pa_cons (pe_op op_cat (pv 3) (pe_callTy call_list_of (by rfl) m_list (by decide +kernel) (pa_cons (pv 1) pa_nil))) (pa_cons (pv 4) pa_nil))))))), ?_⟩
  rintro ds r ⟨n, P, D, rfl, ok, rfl⟩ _
  refine .inl ?_
  have c1 := ok.rays.cnt
  have c2 := ok.dirs.cnt
  have en := ok.en
  refine run_seq (run_asg (ev_call (ea_cons (ev_var (i := 0) rfl) ea_nil) ⟨n, P, rfl, ok.en, ok.n12, ok.eqs, ok.fac, rfl⟩ rfl) (tg_tup (tgs_cons (tg_name (by simp [args])) (tgs_cons (tg_name (by simp [args])) (tgs_cons (tg_name (by simp [args])) tgs_nil))) rfl)) ?_
  refine run_ret (ev_call (ea_cons (ev_op (ev_var (i := 0) rfl) (ev_int (i := 0)) (op_ixT (i := 0) (at_nat (i := 0) rfl))) (ea_cons (ev_var (i := 2) rfl) (ea_cons (ev_eq (en_cat (ev_var (i := 3) rfl) (en_list (ev_var (i := 1) rfl)).e (by simp; omega)).e (by rw [← List.map_append] <;> rfl)) (ea_cons (ev_var (i := 4) rfl) ea_nil)))) ⟨n, (FM.generators P).points, (FM.generators P).rays ++ D, (FM.generators P).lines, _, _, by rw [en]; rfl, .list _, .list _, ok.n12, ok.pts, ok.rays.app ok.dirs, ok.lines, ok.ne, ?_⟩ rfl)
  unfold FM.extended
  rw [en]
end FD
end
section
set_option Elab.async false
set_option linter.all false
set_option maxRecDepth 100000
set_option maxHeartbeats 4000000
/-! location_at .. is_state -/
namespace FD
open PySem PySem.Spec PyProof.Rows L2 LamX FW FT FK
variable {P : Program} {w : World} {K : PySem.W.Frag} {mg : Str → Option Value} {base : Heap} {T : List (Addr × Str)} {C : Addr}
abbrev Loc := List (List Int) × List (List Int)
def dLoc (l : Loc) : PyData := .tuple [dVs l.1, dVs l.2]
/-- a system: what is not read here is any data -/
structure Sys where
  n : Nat
  x : PyData
  locs : List Loc
  j : PyData
  s : PyData
def dSys (S : Sys) : PyData := .tuple [.int (S.n : Nat), S.x, .list (S.locs.map dLoc), S.j, S.s]
abbrev n_location_at : List Str := ["system", "location"]
theorem sc_location_at : FnScope n_location_at ["system", "location"] (defScope (top 29)) := ⟨rfl, rfl, rfl, by decide +kernel, rfl, by decide +kernel, by decide +kernel⟩
def F_location_at (ds : List PyData) (r : PyData) : Prop := ∃ (S : Sys) (i : Nat) (l : Loc), ds = [dSys S, .int (i : Nat)] ∧ S.locs[i]? = some l ∧ r = dLoc l
theorem D_location_at (h : Has K mg "location_at" (top 29)) (m_len : mg "len" = none) : Dn P w K mg base 1 "location_at" ["system", "location"] (SpD K T 2 F_location_at) := by
  have nd := sc_location_at.nd
  refine mkD (m := 0) h sc_location_at rfl rfl (fun _ _ _ _ _ _ us hl => match us, hl with | [_, _], _ => rfl) fun f cdv A outer s H E hr => ⟨_, pss_cons (ps_if (pt_not (pt_chain op_le op_lt (pe_int) (pv 1) (pe_callB call_len_seq (by rfl) m_len PySem.boot_len (pa_cons (pe_ix ix_tup (pv 0) (pe_int) (fun _ _ => rfl)) pa_nil)))) (pss_one (ps_never)) (pss_nil)) (pss_one (ps_ret (pe_ix ix_list (pe_ix ix_tup (pv 0) (pe_int) (fun _ _ => rfl)) (pv 1) (fun _ _ => rfl)))), ?_⟩
  rintro ds r ⟨S, i, l, rfl, hl, rfl⟩ _
  refine .inl ?_
  have hi := (List.getElem?_eq_some_iff.mp hl).1
  have e2 : EvE K T (tOp (rIxT K) (tVar 0) (tC (.int 2))) (args [dSys S, .int (i : Nat)] 0) (.list (S.locs.map dLoc)) := ev_op (ev_var (i := 0) rfl) (ev_int (i := 2)) (op_ixT (i := 2) (at_nat (i := 2) rfl))
  refine run_seq (run_if (b := false) (et_eq (et_not (et_test (ev_chain (b := true) (c := true) (ev_int (i := 0)) (ev_var (i := 1) rfl) ?_ (fun _ => ev_len e2) (fun _ => ?_)))) rfl) (fun q => by cases q) (fun _ => run_next)) ?_
  · have : decide ((0 : Int) ≤ (i : Int)) = true := by simp
    exact this ▸ op_leI
  · have : decide ((i : Int) < ((S.locs.map dLoc).length : Nat)) = true := by simp; exact hi
    exact this ▸ op_ltI
  · exact run_ret (ev_op e2 (ev_var (i := 1) rfl) (op_ixL (at_nat (by rw [List.getElem?_map, hl]; rfl))))
abbrev n_invariant_of : List Str := ["system", "location", "invariant", "_"]
theorem sc_invariant_of : FnScope n_invariant_of ["system", "location"] (defScope (top 30)) := ⟨rfl, rfl, rfl, by decide +kernel, rfl, by decide +kernel, by decide +kernel⟩
def F_invariant_of (ds : List PyData) (r : PyData) : Prop := ∃ (S : Sys) (i : Nat) (l : Loc), ds = [dSys S, .int (i : Nat)] ∧ S.locs[i]? = some l ∧ PolyOk S.n l.1 [] ∧ r = dOpt (FM.polyhedron S.n l.1 [])
theorem D_invariant_of (h : Has K mg "invariant_of" (top 30)) (d1 : Dn P w K mg base 1 "location_at" ["system", "location"] (SpD K T 2 F_location_at)) (d2 : DnD P w K mg base 13 "polyhedron" ["n", "conditions", "equations"] (SpD K T 3 F_polyhedron) 1) : Dn P w K mg base 14 "invariant_of" ["system", "location"] (SpD K T 2 F_invariant_of) := by
  have nd := sc_invariant_of.nd
  obtain ⟨_, _, G_location_at, m_location_at, k_location_at, b_location_at⟩ := d1
  obtain ⟨_, _, G_polyhedron, m_polyhedron, k_polyhedron, _, dvs, dsv, rd_polyhedron, bd_polyhedron, hda⟩ := d2
  refine mkD (m := 2) h sc_invariant_of rfl rfl (fun _ _ _ _ _ _ us hl => match us, hl with | [_, _], _ => rfl) fun f cdv A outer s H E hr => ⟨_, pss_cons (ps_asg (pe_call G_location_at (hr.mono (by decide)) (by rfl) m_location_at k_location_at b_location_at .nil pass0 (pa_cons (pv 0) (pa_cons (pv 1) pa_nil))) (pg_tup rfl (pgs_cons (pg_name (i := 2) nd rfl (Or.inl rfl)) (pgs_cons (pg_name (i := 3) nd rfl (Or.inl rfl)) pgs_nil)))) (pss_one (ps_ret (pe_call G_polyhedron (hr.mono (by decide)) (by rfl) m_polyhedron k_polyhedron bd_polyhedron rd_polyhedron pass0 (pa_cons (pe_ix ix_tup (pv 0) (pe_int) (fun _ _ => rfl)) (pa_cons (pv 2) pa_nil))))), ?_⟩
  rintro ds r ⟨S, i, l, rfl, hl, ok, rfl⟩ _
  refine .inl ?_
  refine run_seq (run_asg (ev_call (ea_cons (ev_var (i := 0) rfl) (ea_cons (ev_var (i := 1) rfl) ea_nil)) ⟨S, i, l, rfl, hl, rfl⟩ rfl) (tg_tup (tgs_cons (tg_name (by simp [args])) (tgs_cons (tg_name (by simp [args])) tgs_nil)) rfl)) ?_
  exact run_ret (ev_callD (es := List.replicate 1 (.tuple [])) (ea_cons (ev_op (ev_var (i := 0) rfl) (ev_int (i := 0)) (op_ixT (i := 0) (at_nat (i := 0) rfl))) (ea_cons (ev_var (i := 2) rfl) ea_nil)) ⟨S.n, l.1, [], .tuple [], rfl, .unit, ok, rfl⟩ rfl hda)
/-- the directions of the rates -/
def dirsOf (rates : List (List Int)) : List (List Int) := (rates.map fun r => FM.primitive (0 :: r.drop 1)).filter fun d => d.any fun z => z != 0
abbrev n_directions_of : List Str := ["system", "location", "_", "rates", "found", "rate", "direction", "item"]
theorem sc_directions_of : FnScope n_directions_of ["system", "location"] (defScope (top 31)) := ⟨rfl, rfl, rfl, by decide +kernel, rfl, by decide +kernel, by decide +kernel⟩
def F_directions_of (ds : List PyData) (r : PyData) : Prop := ∃ (S : Sys) (i : Nat) (l : Loc), ds = [dSys S, .int (i : Nat)] ∧ S.locs[i]? = some l ∧ (∀ r ∈ l.2, r.length ≤ 900 ∧ Bd 800 r) ∧ l.2.length ≤ 900 ∧ r = dVs (dirsOf l.2)
theorem D_directions_of (h : Has K mg "directions_of" (top 31)) (d1 : Dn P w K mg base 1 "location_at" ["system", "location"] (SpD K T 2 F_location_at)) (d2 : Dn P w K mg base 2 "primitive" ["vector"] (SpD K T 1 F_primitive)) (m_any : mg "any" = none) : Dn P w K mg base 3 "directions_of" ["system", "location"] (SpD K T 2 F_directions_of) := by
  have nd := sc_directions_of.nd
  obtain ⟨_, _, G_location_at, m_location_at, k_location_at, b_location_at⟩ := d1
  obtain ⟨_, _, G_primitive, m_primitive, k_primitive, b_primitive⟩ := d2
  refine mkD (m := 6) h sc_directions_of rfl rfl (fun _ _ _ _ _ _ us hl => match us, hl with | [_, _], _ => rfl) fun f cdv A outer s H E hr => ⟨_, pss_cons (ps_asg (pe_call G_location_at (hr.mono (by decide)) (by rfl) m_location_at k_location_at b_location_at .nil pass0 (pa_cons (pv 0) (pa_cons (pv 1) pa_nil))) (pg_tup rfl (pgs_cons (pg_name (i := 2) nd rfl (Or.inl rfl)) (pgs_cons (pg_name (i := 3) nd rfl (Or.inl rfl)) pgs_nil)))) (pss_cons (ps_setLc (i := 4) (own := [("rate", 5)]) rfl nd rfl rfl (sw_true rfl rfl rfl (by decide +kernel)) (pi_list (pv 3)) (blkOk_by (own := [("rate", 5)]) (N := n_directions_of) (sc := defScope (top 31)) (by decide +kernel)) (fun _ _ _ _ _ => pg_name (i := 5) nd rfl (Or.inl rfl)) (fun _ _ _ _ _ => pts_nil) (fun _ _ _ _ _ => pe_call G_primitive (hr.mono (by decide)) (by rfl) m_primitive k_primitive b_primitive .nil pass0 (pa_cons (pe_op op_cat (pe_lst (pa_cons (pe_int) pa_nil)) (pe_slice (sl_listK (K := K) rfl) (pv 5) (po_some (pe_int)) po_none)) pa_nil))) (pss_one (ps_ret (pe_lc (own := [("direction", 6)]) rfl nd (pi_list (pv 4)) (blkOk_by (own := [("direction", 6)]) (N := n_directions_of) (sc := defScope (top 31)) (by decide +kernel)) (fun _ _ _ _ _ => pg_name (i := 6) nd rfl (Or.inl rfl)) (fun _ _ _ _ _ => pts_one (pt_val (pe_callB (cr_anyK (K := K) rfl rfl) (by rfl) m_any (by decide +kernel) (by exact (pa_cons (pe_lc (own := [("item", 7)]) rfl nd (pi_listK (K := K) rfl (pv 6)) (blkOk_by (own := [("item", 7)]) rfl) (fun _ _ _ _ _ => pg_name (i := 7) nd rfl (Or.inl rfl)) (fun _ _ _ _ _ => pts_nil) (fun _ _ _ _ _ => pe_cmpR op_ne (pv 7) (pe_int) (nomark _))) pa_nil))))) (fun _ _ _ _ _ => pv 6))))), ?_⟩
  rintro ds r ⟨S, i, l, rfl, hl, hr, hc, rfl⟩ _
  refine .inl ?_
  refine run_seq (run_asg (ev_call (ea_cons (ev_var (i := 0) rfl) (ea_cons (ev_var (i := 1) rfl) ea_nil)) ⟨S, i, l, rfl, hl, rfl⟩ rfl) (tg_tup (tgs_cons (tg_name (by simp [args])) (tgs_cons (tg_name (by simp [args])) tgs_nil)) rfl)) ?_
  obtain ⟨inv, rates⟩ := l
  replace hr : ∀ r ∈ rates, r.length ≤ 900 ∧ Bd 800 r := hr
  replace hc : rates.length ≤ 900 := hc
  refine run_seq (run_set (x := dVs (rates.map fun r => FM.primitive (0 :: r.drop 1))) (ev_eq (en_map (ei_list (ev_var (i := 3) (x := dVs rates) rfl)) (fun d => dV (FM.primitive (0 :: (unV d).drop 1))) (vs := [5]) (by simp [args]) (fun x => [.d (dSys S), .d (.int (i : Nat)), .d (dVs inv), .d (dVs rates), .un, .d x, .un, .un]) (by simp; omega) (ws := [5]) (by simp) (fun x hx => tg_name (by simp [wipeE, args])) (fun x hx => ?_)).e ?_) (by simp [args])) ?_
  · obtain ⟨r, hrm, rfl⟩ := List.mem_map.mp hx
    obtain ⟨h1, h2⟩ := hr r hrm
    rw [unV_dV]
    have sl : EvE K T (tSl (rSlL K) (tVar 5) (tPart (tC (.int 1))) tNoPart) [.d (dSys S), .d (.int (i : Nat)), .d (dVs inv), .d (dVs rates), .un, .d (dV r), .un, .un] (dV (r.drop 1)) := by
      refine ev_eq (en_slice (ev_var (i := 5) rfl) (eo_some (ev_int (i := ((1 : Nat) : Int)))) eo_none).e ?_
      rw [HT.sIx_none, HT.sIx_nat, List.length_map]
      unfold dV
      rw [List.map_drop]
      by_cases q : r.length = 0
      · have : r = [] := List.length_eq_zero_iff.mp q
        subst this; rfl
      · rw [Nat.min_eq_left (by omega), List.take_of_length_le (by simp)]
    refine ev_call (ea_cons (ev_eq (en_cat (en_lst (ea_cons (ev_int (i := 0)) ea_nil) (by simp)).e sl (by simp; omega)).e (y := dV (0 :: r.drop 1)) (by simp [dV])) ea_nil) ⟨0 :: r.drop 1, rfl, fun z hz => ?_, by simp; omega, rfl⟩ rfl
    rcases List.mem_cons.mp hz with rfl | hz
    · exact Nat.two_pow_pos _
    · exact Nat.lt_of_lt_of_le (h2 z (List.mem_of_mem_drop hz)) (Nat.pow_le_pow_right (by decide) (by decide))
  · rw [List.map_map]; unfold dVs; rw [List.map_map]; congr 1; exact List.map_congr_left fun o _ => by simp
  have fl : ∀ r ∈ rates.map (fun r => FM.primitive (0 :: r.drop 1)), r.length ≤ 1000 := fun r hrm => by
    obtain ⟨q, hq, rfl⟩ := List.mem_map.mp hrm
    have := (hr q hq).1
    rw [FM.primitive_length]; simp; omega
  unfold dirsOf
  have hcl : (rates.map fun r => FM.primitive (0 :: r.drop 1)).length ≤ 900 := by simpa using hc
  generalize rates.map (fun r => FM.primitive (0 :: r.drop 1)) = F at fl hcl ⊢
  refine run_ret (ev_eq (en_filter (ei_list (ev_var (i := 4) rfl)) (fun z => (unV z).any fun y => y != 0) (fun z => z) (vs := [6]) (by simp [args]) (fun z => [.d (dSys S), .d (.int (i : Nat)), .d (dVs inv), .d (dVs rates), .d (dVs F), .un, .d z, .un]) (by simp; omega) (ws := [6]) (by simp) (fun z hz => tg_name (by simp [wipeE, args])) (fun z hz => ?_) (fun z hz _ => ev_var (i := 6) rfl)).e ?_)
  · obtain ⟨v, hv, rfl⟩ := List.mem_map.mp hz
    rw [unV_dV]
    have al : ((v.map fun y => y != 0).any id) = v.any fun y => y != 0 := by rw [List.any_map]; rfl
    refine et_eq (et_B (ev_any (ns := v.map fun y => y != 0) (ev_eq (en_map (ei_list (ev_var (i := 6) rfl)) (fun d => .bool (unI d != 0)) (vs := [7]) (by simp) (fun x => [.d (dSys S), .d (.int (i : Nat)), .d (dVs inv), .d (dVs rates), .d (dVs F), .un, .d (dV v), .d x]) (by have := fl v hv; simp; omega) (ws := [7]) (by simp) (fun x hx => tg_name (by simp [wipeE])) (fun x hx => ?_)).e ?_))) al
    · obtain ⟨y, _, rfl⟩ := List.mem_map.mp hx
      refine ev_eq (ev_op (ev_var (i := 7) rfl) (ev_int (i := 0)) op_neI) ?_
      by_cases q : y = 0 <;> simp [q, unI]
    · rw [List.map_map, List.map_map]; congr 1
  · simp [dVs, List.filter_map, Function.comp_def]
/-- what inside needs -/
structure InOk (n : Nat) (inv : List (List Int)) (P : FM.Poly) : Prop where
  pol : PolyOk n inv []
  meet : ∀ I, FM.polyhedron n inv [] = some I → PolyOk P.1 (P.2.2 ++ I.2.2) (P.2.1 ++ I.2.1)
abbrev n_inside : List Str := ["system", "location", "region", "invariant"]
theorem sc_inside : FnScope n_inside ["system", "location", "region"] (defScope (top 33)) := ⟨rfl, rfl, rfl, by decide +kernel, rfl, by decide +kernel, by decide +kernel⟩
def F_inside (ds : List PyData) (r : PyData) : Prop := ∃ (S : Sys) (i : Nat) (l : Loc) (P : FM.Poly), ds = [dSys S, .int (i : Nat), dPoly P] ∧ S.locs[i]? = some l ∧ InOk S.n l.1 P ∧ r = dOpt (FM.inside S.n l.1 P)
theorem D_inside (h : Has K mg "inside" (top 33)) (d1 : Dn P w K mg base 14 "invariant_of" ["system", "location"] (SpD K T 2 F_invariant_of)) (d2 : Dn P w K mg base 14 "meet" ["region", "other"] (SpD K T 2 F_meet)) : Dn P w K mg base 15 "inside" ["system", "location", "region"] (SpD K T 3 F_inside) := by
  have nd := sc_inside.nd
  obtain ⟨_, _, G_invariant_of, m_invariant_of, k_invariant_of, b_invariant_of⟩ := d1
  obtain ⟨_, _, G_meet, m_meet, k_meet, b_meet⟩ := d2
  refine mkD (m := 1) h sc_inside rfl rfl (fun _ _ _ _ _ _ us hl => match us, hl with | [_, _, _], _ => rfl) fun f cdv A outer s H E hr => ⟨_, pss_cons (ps_set (i := 3) nd rfl (Or.inl rfl) (pe_call G_invariant_of (hr.mono (by decide)) (by rfl) m_invariant_of k_invariant_of b_invariant_of .nil pass0 (pa_cons (pv 0) (pa_cons (pv 1) pa_nil)))) (pss_cons (ps_if (pt_cmp (pc_isN (pv 3)) rfl) (pss_one (ps_ret (pe_non))) (pss_nil)) (pss_one (ps_ret (pe_call G_meet (hr.mono (by decide)) (by rfl) m_meet k_meet b_meet .nil pass0 (pa_cons (pv 2) (pa_cons (pv 3) pa_nil)))))), ?_⟩
  rintro ds r ⟨S, i, l, P, rfl, hl, ok, rfl⟩ _
  refine .inl ?_
  unfold FM.inside
  refine run_seq (run_set (ev_call (ea_cons (ev_var (i := 0) rfl) (ea_cons (ev_var (i := 1) rfl) ea_nil)) ⟨S, i, l, rfl, hl, ok.pol, rfl⟩ rfl) (by simp [args])) ?_
  cases e : FM.polyhedron S.n l.1 [] with
  | none => exact run_seqR (run_if (b := true) (et_test (ev_isN (ev_var (i := 3) (x := .none) rfl) rfl)) (fun _ => run_ret ev_non) (fun q => by cases q))
  | some I =>
    refine run_seq (run_if (b := false) (et_test (ev_isN (ev_var (i := 3) (x := dPoly I) rfl) rfl)) (fun q => by cases q) (fun _ => run_next)) ?_
    exact run_ret (ev_call (ea_cons (ev_var (i := 2) rfl) (ea_cons (ev_var (i := 3) (x := dPoly I) rfl) ea_nil)) ⟨P, I, rfl, ok.meet I e, rfl⟩ rfl)
/-- what stretched needs -/
structure StrOk (n : Nat) (inv : List (List Int)) (P : FM.Poly) (D : List (List Int)) : Prop where
  part : InOk n inv P
  ext : ∀ Q, FM.inside n inv P = some Q → ExtOk n Q D
  again : ∀ Q, FM.inside n inv P = some Q → InOk n inv (FM.extended Q D)
abbrev n_stretched : List Str := ["system", "location", "region", "directions", "part"]
theorem sc_stretched : FnScope n_stretched ["system", "location", "region", "directions"] (defScope (top 34)) := ⟨rfl, rfl, rfl, by decide +kernel, rfl, by decide +kernel, by decide +kernel⟩
def F_stretched (ds : List PyData) (r : PyData) : Prop := ∃ (S : Sys) (i : Nat) (l : Loc) (P : FM.Poly) (D : List (List Int)), ds = [dSys S, .int (i : Nat), dPoly P, dVs D] ∧ S.locs[i]? = some l ∧ StrOk S.n l.1 P D ∧ r = dOpt (FM.stretched S.n l.1 P D)
theorem D_stretched (h : Has K mg "stretched" (top 34)) (d1 : Dn P w K mg base 15 "inside" ["system", "location", "region"] (SpD K T 3 F_inside)) (d2 : Dn P w K mg base 14 "extended" ["region", "directions"] (SpD K T 2 F_extended)) : Dn P w K mg base 16 "stretched" ["system", "location", "region", "directions"] (SpD K T 4 F_stretched) := by
  have nd := sc_stretched.nd
  obtain ⟨_, _, G_inside, m_inside, k_inside, b_inside⟩ := d1
  obtain ⟨_, _, G_extended, m_extended, k_extended, b_extended⟩ := d2
  refine mkD (m := 1) h sc_stretched rfl rfl (fun _ _ _ _ _ _ us hl => match us, hl with | [_, _, _, _], _ => rfl) fun f cdv A outer s H E hr => ⟨_, pss_cons (ps_set (i := 4) nd rfl (Or.inl rfl) (pe_call G_inside (hr.mono (by decide)) (by rfl) m_inside k_inside b_inside .nil pass0 (pa_cons (pv 0) (pa_cons (pv 1) (pa_cons (pv 2) pa_nil))))) (pss_cons (ps_if (pt_cmp (pc_isN (pv 4)) rfl) (pss_one (ps_ret (pe_non))) (pss_nil)) (pss_one (ps_ret (pe_call G_inside (hr.mono (by decide)) (by rfl) m_inside k_inside b_inside .nil pass0 (pa_cons (pv 0) (pa_cons (pv 1) (pa_cons (pe_call G_extended (hr.mono (by decide)) (by rfl) m_extended k_extended b_extended .nil pass0 (pa_cons (pv 4) (pa_cons (pv 3) pa_nil))) pa_nil))))))), ?_⟩
  rintro ds r ⟨S, i, l, P, D, rfl, hl, ok, rfl⟩ _
  refine .inl ?_
  unfold FM.stretched
  refine run_seq (run_set (ev_call (ea_cons (ev_var (i := 0) rfl) (ea_cons (ev_var (i := 1) rfl) (ea_cons (ev_var (i := 2) rfl) ea_nil))) ⟨S, i, l, P, rfl, hl, ok.part, rfl⟩ rfl) (by simp [args])) ?_
  cases e : FM.inside S.n l.1 P with
  | none => exact run_seqR (run_if (b := true) (et_test (ev_isN (ev_var (i := 4) (x := .none) rfl) rfl)) (fun _ => run_ret ev_non) (fun q => by cases q))
  | some Q =>
    refine run_seq (run_if (b := false) (et_test (ev_isN (ev_var (i := 4) (x := dPoly Q) rfl) rfl)) (fun q => by cases q) (fun _ => run_next)) ?_
    exact run_ret (ev_call (ea_cons (ev_var (i := 0) rfl) (ea_cons (ev_var (i := 1) rfl) (ea_cons (ev_call (ea_cons (ev_var (i := 4) (x := dPoly Q) rfl) (ea_cons (ev_var (i := 3) rfl) ea_nil)) ⟨S.n, Q, D, rfl, ok.ext Q e, rfl⟩ rfl) ea_nil))) ⟨S, i, l, _, rfl, hl, ok.again Q e, rfl⟩ rfl)
abbrev n_wait_forward : List Str := ["system", "location", "region"]
theorem sc_wait_forward : FnScope n_wait_forward ["system", "location", "region"] (defScope (top 35)) := ⟨rfl, rfl, rfl, by decide +kernel, rfl, by decide +kernel, by decide +kernel⟩
def F_forward (ds : List PyData) (r : PyData) : Prop := ∃ (S : Sys) (i : Nat) (l : Loc) (P : FM.Poly), ds = [dSys S, .int (i : Nat), dPoly P] ∧ S.locs[i]? = some l ∧ (∀ r ∈ l.2, r.length ≤ 900 ∧ Bd 800 r) ∧ l.2.length ≤ 900 ∧ StrOk S.n l.1 P (dirsOf l.2) ∧ r = dOpt (FM.stretched S.n l.1 P (dirsOf l.2))
theorem D_forward (h : Has K mg "wait_forward" (top 35)) (d1 : Dn P w K mg base 16 "stretched" ["system", "location", "region", "directions"] (SpD K T 4 F_stretched)) (d2 : Dn P w K mg base 3 "directions_of" ["system", "location"] (SpD K T 2 F_directions_of)) : Dn P w K mg base 17 "wait_forward" ["system", "location", "region"] (SpD K T 3 F_forward) := by
  have nd := sc_wait_forward.nd
  obtain ⟨_, _, G_stretched, m_stretched, k_stretched, b_stretched⟩ := d1
  obtain ⟨_, _, G_directions_of, m_directions_of, k_directions_of, b_directions_of⟩ := d2
  refine mkD (m := 0) h sc_wait_forward rfl rfl (fun _ _ _ _ _ _ us hl => match us, hl with | [_, _, _], _ => rfl) fun f cdv A outer s H E hr => ⟨_, pss_one (ps_ret (pe_call G_stretched (hr.mono (by decide)) (by rfl) m_stretched k_stretched b_stretched .nil pass0 (pa_cons (pv 0) (pa_cons (pv 1) (pa_cons (pv 2) (pa_cons (pe_call G_directions_of (hr.mono (by decide)) (by rfl) m_directions_of k_directions_of b_directions_of .nil pass0 (pa_cons (pv 0) (pa_cons (pv 1) pa_nil))) pa_nil)))))), ?_⟩
  rintro ds r ⟨S, i, l, P, rfl, hl, hr, hc, ok, rfl⟩ _
  exact .inl (run_ret (ev_call (ea_cons (ev_var (i := 0) rfl) (ea_cons (ev_var (i := 1) rfl) (ea_cons (ev_var (i := 2) rfl) (ea_cons (ev_call (ea_cons (ev_var (i := 0) rfl) (ea_cons (ev_var (i := 1) rfl) ea_nil)) ⟨S, i, l, rfl, hl, hr, hc, rfl⟩ rfl) ea_nil)))) ⟨S, i, l, P, _, rfl, hl, ok, rfl⟩ rfl))
abbrev n_wait_backward : List Str := ["system", "location", "region", "back", "direction", "item"]
theorem sc_wait_backward : FnScope n_wait_backward ["system", "location", "region"] (defScope (top 36)) := ⟨rfl, rfl, rfl, by decide +kernel, rfl, by decide +kernel, by decide +kernel⟩
def F_backward (ds : List PyData) (r : PyData) : Prop := ∃ (S : Sys) (i : Nat) (l : Loc) (P : FM.Poly), ds = [dSys S, .int (i : Nat), dPoly P] ∧ S.locs[i]? = some l ∧ (∀ r ∈ l.2, r.length ≤ 900 ∧ Bd 800 r) ∧ l.2.length ≤ 900 ∧ StrOk S.n l.1 P (FM.negs (dirsOf l.2)) ∧ r = dOpt (FM.stretched S.n l.1 P (FM.negs (dirsOf l.2)))
theorem D_backward (h : Has K mg "wait_backward" (top 36)) (d1 : Dn P w K mg base 16 "stretched" ["system", "location", "region", "directions"] (SpD K T 4 F_stretched)) (d2 : Dn P w K mg base 3 "directions_of" ["system", "location"] (SpD K T 2 F_directions_of)) : Dn P w K mg base 17 "wait_backward" ["system", "location", "region"] (SpD K T 3 F_backward) := by
  have nd := sc_wait_backward.nd
  obtain ⟨_, _, G_stretched, m_stretched, k_stretched, b_stretched⟩ := d1
  obtain ⟨_, _, G_directions_of, m_directions_of, k_directions_of, b_directions_of⟩ := d2
  refine mkD (m := 3) h sc_wait_backward rfl rfl (fun _ _ _ _ _ _ us hl => match us, hl with | [_, _, _], _ => rfl) fun f cdv A outer s H E hr => ⟨_, pss_cons (ps_setLc (i := 3) (own := [("direction", 4)]) rfl nd rfl rfl (sw_true rfl rfl rfl (by decide +kernel)) (pi_list (pe_call G_directions_of (hr.mono (by decide)) (by rfl) m_directions_of k_directions_of b_directions_of .nil pass0 (pa_cons (pv 0) (pa_cons (pv 1) pa_nil)))) (blkOk_by (own := [("direction", 4)]) (N := n_wait_backward) (sc := defScope (top 36)) (by decide +kernel)) (fun _ _ _ _ _ => pg_name (i := 4) nd rfl (Or.inl rfl)) (fun _ _ _ _ _ => pts_nil) (fun _ _ _ _ _ => pe_lc (own := [("item", 5)]) rfl nd (pi_listK (K := K) rfl (pv 4)) (blkOk_by (own := [("item", 5)]) rfl) (fun _ _ _ _ _ => pg_name (i := 5) nd rfl (Or.inl rfl)) (fun _ _ _ _ _ => pts_nil) (fun _ _ _ _ _ => pe_un un_neg (pv 5)))) (pss_one (ps_ret (pe_call G_stretched (hr.mono (by decide)) (by rfl) m_stretched k_stretched b_stretched .nil pass0 (pa_cons (pv 0) (pa_cons (pv 1) (pa_cons (pv 2) (pa_cons (pv 3) pa_nil))))))), ?_⟩
  rintro ds r ⟨S, i, l, P, rfl, hl, hr, hc, ok, rfl⟩ _
  refine .inl ?_
  have dl : (dirsOf l.2).length ≤ 900 := by
    have := List.length_filter_le (fun d : List Int => d.any fun z => z != 0) (l.2.map fun r => FM.primitive (0 :: r.drop 1))
    unfold dirsOf
    rw [List.length_map] at this
    omega
  have dv : ∀ d ∈ dirsOf l.2, d.length ≤ 1000 := fun d hd => by
    obtain ⟨q, hq, rfl⟩ := List.mem_map.mp (List.mem_filter.mp hd).1
    have := (hr q hq).1
    rw [FM.primitive_length]; simp; omega
  have fdir : F_directions_of [dSys S, .int (i : Nat)] (dVs (dirsOf l.2)) := ⟨S, i, l, rfl, hl, hr, hc, rfl⟩
  generalize dirsOf l.2 = D at dl dv ok fdir ⊢
  refine run_seq (run_set (x := dVs (FM.negs D)) (ev_eq (en_map (ei_list (ev_call (ea_cons (ev_var (i := 0) rfl) (ea_cons (ev_var (i := 1) rfl) ea_nil)) fdir rfl)) (fun d => dV (FM.neg (unV d))) (vs := [4]) (by simp [args]) (fun x => [.d (dSys S), .d (.int (i : Nat)), .d (dPoly P), .un, .d x, .un]) (by simp; omega) (ws := [4]) (by simp) (fun x hx => tg_name (by simp [wipeE, args])) (fun x hx => ?_)).e ?_) (by simp [args])) ?_
  · obtain ⟨v, hv, rfl⟩ := List.mem_map.mp hx
    rw [unV_dV]
    refine ev_eq (en_map (ei_list (ev_var (i := 4) rfl)) (fun d => .int (- unI d)) (vs := [5]) (by simp) (fun x => [.d (dSys S), .d (.int (i : Nat)), .d (dPoly P), .un, .d (dV v), .d x]) (by have := dv v hv; simp; omega) (ws := [5]) (by simp) (fun x hx => tg_name (by simp [wipeE])) (fun x hx => ?_)).e ?_
    · obtain ⟨y, _, rfl⟩ := List.mem_map.mp hx
      exact ev_neg (ev_var (i := 5) rfl)
    · unfold dV FM.neg; rw [List.map_map, List.map_map]; rfl
  · unfold dVs FM.negs; rw [List.map_map, List.map_map]; congr 1; exact List.map_congr_left fun o _ => by simp
  · exact run_ret (ev_call (ea_cons (ev_var (i := 0) rfl) (ea_cons (ev_var (i := 1) rfl) (ea_cons (ev_var (i := 2) rfl) (ea_cons (ev_var (i := 3) rfl) ea_nil)))) ⟨S, i, l, P, _, rfl, hl, ok, rfl⟩ rfl)
abbrev n_is_state : List Str := ["system", "state", "location", "point", "condition"]
theorem sc_is_state : FnScope n_is_state ["system", "state"] (defScope (top 38)) := ⟨rfl, rfl, rfl, by decide +kernel, rfl, by decide +kernel, by decide +kernel⟩
def F_is_state (ds : List PyData) (r : PyData) : Prop := ∃ (S : Sys) (i : Nat) (l : Loc) (p : List Int), ds = [dSys S, .tuple [.int (i : Nat), dV p]] ∧ S.locs[i]? = some l ∧ (∀ c ∈ l.1, c.length ≤ 900 ∧ Bd 300000 c) ∧ l.1.length ≤ 900 ∧ Bd 300000 p ∧ r = .bool (l.1.all fun c => decide (0 ≤ FM.dot c p))
theorem D_is_state (h : Has K mg "is_state" (top 38)) (d1 : Dn P w K mg base 1 "dot" ["first", "second"] (SpD K T 2 F_dot)) (m_all : mg "all" = none) (m_len : mg "len" = none) : Dn P w K mg base 2 "is_state" ["system", "state"] (SpD K T 2 F_is_state) := by
  have nd := sc_is_state.nd
  obtain ⟨_, _, G_dot, m_dot, k_dot, b_dot⟩ := d1
  refine mkD (m := 3) h sc_is_state rfl rfl (fun _ _ _ _ _ _ us hl => match us, hl with | [_, _], _ => rfl) fun f cdv A outer s H E hr => ⟨_, pss_cons (ps_asg (pv 1) (pg_tup rfl (pgs_cons (pg_name (i := 2) nd rfl (Or.inl rfl)) (pgs_cons (pg_name (i := 3) nd rfl (Or.inr rfl)) pgs_nil)))) (pss_cons (ps_if (pt_not (pt_chain op_le op_lt (pe_int) (pv 2) (pe_callB call_len_seq (by rfl) m_len PySem.boot_len (pa_cons (pe_ix ix_tup (pv 0) (pe_int) (fun _ _ => rfl)) pa_nil)))) (pss_one (ps_ret (pe_bl))) (pss_nil)) (pss_one (ps_ret (pe_callB (cr_all rfl) (by rfl) m_all (by decide +kernel) (by exact (pa_cons (pe_lc (own := [("condition", 4)]) rfl nd (pi_list (pe_ix ix_tup (pe_ix ix_list (pe_ix ix_tup (pv 0) (pe_int) (fun _ _ => rfl)) (pv 2) (fun _ _ => rfl)) (pe_int) (fun _ _ => rfl))) (blkOk_by (own := [("condition", 4)]) (N := n_is_state) (sc := defScope (top 38)) (by decide +kernel)) (fun _ _ _ _ _ => pg_name (i := 4) nd rfl (Or.inl rfl)) (fun _ _ _ _ _ => pts_nil) (fun _ _ _ _ _ => pe_cmpR op_ge (pe_call G_dot (hr.mono (by decide)) (by rfl) m_dot k_dot b_dot .nil pass0 (pa_cons (pv 4) (pa_cons (pv 3) pa_nil))) (pe_int) (nomark _))) pa_nil)))))), ?_⟩
  rintro ds r ⟨S, i, l, p, rfl, hl, hv, hc, hp, rfl⟩ _
  refine .inl ?_
  have hi := (List.getElem?_eq_some_iff.mp hl).1
  refine run_seq (run_asg (ev_var (i := 1) rfl) (tg_tup (tgs_cons (tg_name (by simp [args])) (tgs_cons (tg_name (by simp [args])) tgs_nil)) rfl)) ?_
  have e2 : EvE K T (tOp (rIxT K) (tVar 0) (tC (.int 2))) [.d (dSys S), .d (.tuple [.int (i : Nat), dV p]), .d (.int (i : Nat)), .d (dV p), .un] (.list (S.locs.map dLoc)) := ev_op (ev_var (i := 0) rfl) (ev_int (i := 2)) (op_ixT (i := 2) (at_nat (i := 2) rfl))
  refine run_seq (run_if (b := false) (et_eq (et_not (et_test (ev_chain (b := true) (c := true) (ev_int (i := 0)) (ev_var (i := 2) rfl) ?_ (fun _ => ev_len e2) (fun _ => ?_)))) rfl) (fun q => by cases q) (fun _ => run_next)) ?_
  · have : decide ((0 : Int) ≤ (i : Int)) = true := by simp
    exact this ▸ op_leI
  · have : decide ((i : Int) < ((S.locs.map dLoc).length : Nat)) = true := by simp; exact hi
    exact this ▸ op_ltI
  have al : ((l.1.map fun c => decide (0 ≤ FM.dot c p)).all id) = l.1.all fun c => decide (0 ≤ FM.dot c p) := by rw [List.all_map]; rfl
  refine run_ret (ev_eq (ev_all (ns := l.1.map fun c => decide (0 ≤ FM.dot c p)) (ev_eq (en_map (ei_list (ev_op (ev_op e2 (ev_var (i := 2) rfl) (op_ixL (x := dLoc l) (at_nat (by rw [List.getElem?_map, hl]; rfl)))) (ev_int (i := 0)) (op_ixT (i := 0) (x := dVs l.1) (at_nat (i := 0) rfl)))) (fun z => .bool (decide (0 ≤ FM.dot (unV z) p))) (vs := [4]) (by simp [args]) (fun z => [.d (dSys S), .d (.tuple [.int (i : Nat), dV p]), .d (.int (i : Nat)), .d (dV p), .d z]) (by simp; omega) (ws := [4]) (by simp) (fun z hz => tg_name (by simp [wipeE, args])) (fun z hz => ?_)).e ?_)) (by rw [al]))
  · obtain ⟨v, hvm, rfl⟩ := List.mem_map.mp hz
    rw [unV_dV]
    exact ev_op (ev_call (ea_cons (ev_var (i := 4) rfl) (ea_cons (ev_var (i := 3) rfl) ea_nil)) ⟨v, p, rfl, (hv v hvm).2.mono (by decide), hp.mono (by decide), by have := (hv v hvm).1; omega, rfl⟩ rfl) (ev_int (i := 0)) op_geI
  · rw [List.map_map, List.map_map]; congr 1; exact List.map_congr_left fun o _ => by simp
end FD
end
section
set_option Elab.async false
set_option linter.all false
set_option maxRecDepth 100000
set_option maxHeartbeats 1000000
/-! Calls that may raise one class of exception, over environments. -/
namespace FW
open PySem PySem.Spec PyProof.Rows L2 LamX
section
variable {K : PySem.W.Frag} {T : List (Addr × Str)} {env env' : En} {c : Addr} {E : XK}
/-- the promise of a def that returns (some r) or raises c('..') (none) -/
def SpX (K : PySem.W.Frag) (T : List (Addr × Str)) (c : Addr) (n : Nat) (F : List PyData → Option PyData → Prop) : Sp := fun vs H Q E => ∃ (Av : Avs) (ds : List PyData) (ro : Option PyData), F ds ro ∧ vs.length = n ∧ Tabs T H ∧ (∀ a, Av a → ∃ o, H a = some o ∧ ∀ ps, o ≠ .tbl ps) ∧ DAll K Av H vs ds ∧
  (∀ r, ro = some r → ∀ v H', ExtN H H' → Tabs T H' → DA K Av H' v r → Q v H') ∧ (ro = none → ∀ H', ExtN H H' → Tabs T H' → E (.ref c) none H')
def EvR (K : PySem.W.Frag) (T : List (Addr × Str)) (c : Addr) (E : XK) (te : TE) (env : En) : Prop := ∀ Mu Av0 H0 Av σ H, Sta K T Mu Av0 H0 Av env σ H → (∀ H', ExtN H H' → Tabs T H' → E (.ref c) none H') → ∀ Q, te σ H Q
def RunX (K : PySem.W.Frag) (T : List (Addr × Str)) (c : Addr) (E : XK) (t : TS) (env : En) : Prop := ∀ Mu Av0 H0 Av σ H D, Sta K T Mu Av0 H0 Av env σ H →
  (∀ H', (∀ b o, H0 b = some o → (∀ ps, o ≠ .tbl ps) → ¬ Mu b → H' b = some o) → Tabs T H' → E (.ref c) none H') → t D σ H
variable {ta : TA} {te tb : TE} {ds : List PyData} {r x : PyData} {n : Nat} {F : List PyData → Option PyData → Prop} {t u : TS}
theorem ev_callX {E : XK} (h : EvA K T ta env ds) (hF : F ds (some r)) (hn : ds.length = n) : EvE K T (tCall (SpX K T c n F) [] E ta) env r := fun Mu Av0 H0 Av σ H S Q q =>
  h _ _ _ _ _ _ S _ fun vs H1 e1 t1 d1 => ⟨Av, ds, some r, hF, by rw [List.append_nil, d1.length]; exact hn, t1, (S.grow e1 t1).av, by rw [List.append_nil]; exact d1, fun r' hr v H2 e2 t2 d2 => by cases hr; exact q v H2 (e1.trans e2) t2 d2, (fun z => nomatch z)⟩
theorem er_callX (h : EvA K T ta env ds) (hF : F ds none) (hn : ds.length = n) : EvR K T c E (tCall (SpX K T c n F) [] E ta) env := fun Mu Av0 H0 Av σ H S q Q =>
  h _ _ _ _ _ _ S _ fun vs H1 e1 t1 d1 => ⟨Av, ds, none, hF, by rw [List.append_nil, d1.length]; exact hn, t1, (S.grow e1 t1).av, by rw [List.append_nil]; exact d1, (fun r' hr => nomatch hr), fun _ H2 e2 t2 => q H2 (e1.trans e2) t2⟩
theorem er_op {rr : R2} (h : EvR K T c E te env) : EvR K T c E (tOp rr te tb) env := fun Mu Av0 H0 Av σ H S q Q => h _ _ _ _ _ _ S q _
theorem rx_drop (h : EvR K T c E te env) : RunX K T c E (tDrop te) env := fun Mu Av0 H0 Av σ H D S q => h _ _ _ _ _ _ S (fun H' e t => q H' (S.grow e t).gw t) _
theorem rx_ret (h : EvR K T c E te env) : RunX K T c E (tRet te) env := fun Mu Av0 H0 Av σ H D S q => h _ _ _ _ _ _ S (fun H' e t => q H' (S.grow e t).gw t) _
theorem rx_seq1 (h : RunX K T c E t env) : RunX K T c E (tSeq t u) env := fun Mu Av0 H0 Av σ H D S q => h _ _ _ _ _ _ _ S q
theorem rx_seq2 (h1 : Run K T t env (.nx env')) (h2 : RunX K T c E u env') : RunX K T c E (tSeq t u) env := fun Mu Av0 H0 Av σ H D S q => h1 _ _ _ _ _ _ _ S fun Av' σ' H' S' p => h2 _ _ _ _ _ _ _ S' q
theorem rx_if {cc : TT} {b : Bool} (h : EvT K T cc env b) (h1 : b = true → RunX K T c E t env) (h2 : b = false → RunX K T c E u env) : RunX K T c E (tIfS cc t u) env := fun Mu Av0 H0 Av σ H D S q =>
  h _ _ _ _ _ _ S _ fun H1 e1 t1 => by
    cases b with
    | true => exact h1 rfl _ _ _ _ _ _ _ (S.grow e1 t1) q
    | false => exact h2 rfl _ _ _ _ _ _ _ (S.grow e1 t1) q
theorem rx_raise : RunX K T c E (fun _ σ H => E (.ref c) none H) env := fun Mu Av0 H0 Av σ H D S q => q H S.gw S.tb
theorem run_defX {N : List Str} {m : Nat} (hN : N.length = n + m) (h : ∀ ds ro, F ds ro → ds.length = n → (∀ r, ro = some r → Run K T t (args ds m) (.ret r) ∨ (r = .none ∧ ∃ e, Run K T t (args ds m) (.nx e))) ∧ (ro = none → RunX K T c E t (args ds m))) {vs : List V} {Q : VK} {H : Hp} (hs : SpX K T c n F vs H Q E) :
    t { nx := fun _ H' => Q .non H', rt := Q } (L2.start N vs) H := by
  obtain ⟨Av, ds, ro, hF, hl, ht, hav, hd, k1, k2⟩ := hs
  have S := sta_start (N := N) (n := m) hd ht hav (by omega)
  obtain ⟨g1, g2⟩ := h ds ro hF (by rw [← hd.length]; exact hl)
  cases ro with
  | some r =>
    rcases g1 r rfl with h | ⟨rfl, e, h⟩
    · exact h _ _ _ _ _ _ _ S fun v H' g t2 d _ => k1 r rfl v H' (fun b o z n => g b o z n id) t2 d
    · exact h _ _ _ _ _ _ _ S fun a s H' S' p => k1 _ rfl _ H' (fun b o z n => S'.gw b o z n id) S'.tb .non
  | none => exact g2 rfl _ _ _ _ _ _ _ S fun H' g t2 => k2 rfl H' (fun b o z n => g b o z n id) t2
end
end FW
namespace FD
open PySem PySem.Spec PyProof.Rows L2 LamX FW FT FK
variable {P : Program} {w : World} {K : PySem.W.Frag} {mg : Str → Option Value} {base : Heap} {T : List (Addr × Str)}
/-- a def that may raise, ready to be called -/
def Xn (P : Program) (w : World) (K : PySem.W.Frag) (mg : Str → Option Value) (base : Heap) (k : Nat) (x : Str) (ps : List Str) (sp : Sp) : Prop :=
  ∃ f fd, FnOk P w K mg base (L2.CX P w) k f fd ps sp ∧ mg x = some (.ref f) ∧ PySem.W.keepIn K (.ref f) = true ∧ Binds K fd ps []
theorem mkX {x : Str} {st : Stmt} {c : Addr} {N ps : List Str} {k n m : Nat} {F : List PyData → Option PyData → Prop} (h : Has K mg x st) (S : FnScope N ps (defScope st)) (hp : ps.length = n) (hN : N.length = n + m)
    (bind : ∀ (kV doc pm : Value) (an : Option Addr) (cdv ct : Value) (us : List Value), us.length = ps.length → bindArgs (PySem.W.fnOf x x (defArgs st) (defBody st) (defScope st) .none kV doc pm an cdv ct) ⟨us, []⟩ = pure (ps.zip us))
    (body : ∀ (f : Addr) (cdv : Value) (A : Around) (outer : List Env) (s : Shared) (H : Hp) (E : XK), Room k (A.deeper (envOfC x (defScope st) s.heap.objs.size f cdv)) →
      ∃ t, PSs (cxOf (L2.CX P w) P w K mg base N x (defScope st) f cdv A outer s H E) (defBody st) t ∧ ∀ ds ro, F ds ro → ds.length = n → (∀ r, ro = some r → Run K T t (args ds m) (.ret r) ∨ (r = .none ∧ ∃ e, Run K T t (args ds m) (.nx e))) ∧ (ro = none → RunX K T c E t (args ds m))) :
    Xn P w K mg base (k + 1) x ps (SpX K T c n F) := by
  obtain ⟨f, fd, Fd, hm⟩ := h
  refine ⟨f, fd, Fd.ok S (fun vs H Q E h => ?_) (fun cdv A outer s H vs Q E hr h => ?_), hm, Fd.kp, Fd.bindsN bind⟩
  · obtain ⟨_, _, _, _, hl, _⟩ := h
    exact hl.trans hp.symm
  · obtain ⟨t, ht, hrun⟩ := body f cdv A outer s H E hr
    exact ⟨t, ht, run_defX hN hrun h⟩
end FD
end
section
set_option Elab.async false
set_option linter.all false
set_option maxRecDepth 100000
set_option maxHeartbeats 4000000
/-! require, after_wait, leads_to -/
namespace FD
open PySem PySem.Spec PyProof.Rows L2 LamX FW FT FK
variable {P : Program} {w : World} {K : PySem.W.Frag} {mg : Str → Option Value} {base : Heap} {T : List (Addr × Str)} {CB : Addr}
/-- the class BadRun -/
structure BadB (K : PySem.W.Frag) (mg : Str → Option Value) (C : Addr) : Prop where
  q : PySem.W.excIn K C He.veBase "ValueError.__new__" = true
  g : mg "BadRun" = some (.ref C)
  k : PySem.W.keepIn K (.ref C) = true
  s : PySem.W.subIn K (.ref C) (.type "BaseException") = some true
  t : PySem.W.typeIn K (.ref C) = some (.type "type")
  m : PySem.W.exmOne K (.ref C) (.ref C) = some true
abbrev n_require : List Str := ["holds"]
theorem sc_require : FnScope n_require ["holds"] (defScope (top 40)) := ⟨rfl, rfl, rfl, by decide +kernel, rfl, by decide +kernel, by decide +kernel⟩
def F_require (ds : List PyData) (ro : Option PyData) : Prop := ∃ b : Bool, ds = [.bool b] ∧ ro = if b = true then some .none else none
theorem D_require (h : Has K mg "require" (top 40)) (B : BadB K mg CB) : Xn P w K mg base 1 "require" ["holds"] (SpX K T CB 1 F_require) := by
  have nd := sc_require.nd
  have qB := B.q
  have kB := B.k
  have m_BadRun := B.g
  refine mkX (m := 0) h sc_require rfl rfl (fun _ _ _ _ _ _ us hl => match us, hl with | [_], _ => rfl) fun f cdv A outer s H E hr => ?_
  have rB : Raises (cxOf (L2.CX P w) P w K mg base n_require "require" (defScope (top 40)) f cdv A outer s H E) (.ref CB) := raises_own B.s B.t
  refine ⟨_, pss_one (ps_if (pt_not (pt_val (pv 0))) (pss_one (ps_raise rfl (takes_of (E := E) rfl rfl rfl rfl) (pmk_own PySem.F.excBase_ValueError qB m_BadRun kB rB rfl))) (pss_nil)), ?_⟩
  rintro ds ro ⟨b, rfl, rfl⟩ _
  cases b with
  | true => exact ⟨fun r hr => .inr ⟨by cases hr; rfl, _, run_if (b := false) (et_eq (et_not (et_B (b := true) (ev_var (i := 0) rfl))) rfl) (fun q => by cases q) (fun _ => run_next)⟩, fun z => nomatch z⟩
  | false => exact ⟨(fun r hr => nomatch hr), fun _ => rx_if (b := true) (et_eq (et_not (et_B (b := false) (ev_var (i := 0) rfl))) rfl) (fun _ => rx_raise) (fun q => by cases q)⟩
/-- where a wait from p leads -/
def reach (S : Sys) (l : Loc) (p : List Int) : FM.Poly := FM.extended (FM.spanned S.n [p] [] []) (dirsOf l.2)
/-- what after_wait needs beyond the state's test -/
structure WaitOk (S : Sys) (l : Loc) (p q : List Int) : Prop where
  sp : Sm S.n 50 [p]
  ext : ExtOk S.n (FM.spanned S.n [p] [] []) (dirsOf l.2)
  eqs : Sm S.n 100 (reach S l p).2.1
  fac : Sm S.n 100 (reach S l p).2.2
structure LocOk (l : Loc) : Prop where
  inv : ∀ c ∈ l.1, c.length ≤ 900 ∧ Bd 300000 c
  cnt : l.1.length ≤ 900
  rates : ∀ r ∈ l.2, r.length ≤ 900 ∧ Bd 800 r
  rcnt : l.2.length ≤ 900
def holdsB (inv : List (List Int)) (p : List Int) : Bool := inv.all fun c => decide (0 ≤ FM.dot c p)
def waitTo (S : Sys) (i : Nat) (l : Loc) (p q : List Int) : Option PyData := if holdsB l.1 q && FM.hasPoint (reach S l p) q then some (.tuple [.int (i : Nat), dV q]) else none
abbrev n_after_wait : List Str := ["system", "state", "point", "location", "before", "reached"]
theorem sc_after_wait : FnScope n_after_wait ["system", "state", "point"] (defScope (top 41)) := ⟨rfl, rfl, rfl, by decide +kernel, rfl, by decide +kernel, by decide +kernel⟩
def F_after_wait (ds : List PyData) (ro : Option PyData) : Prop := ∃ (S : Sys) (i : Nat) (l : Loc) (p q : List Int), ds = [dSys S, .tuple [.int (i : Nat), dV p], dV q] ∧ S.locs[i]? = some l ∧ LocOk l ∧ Bd 300000 q ∧ (holdsB l.1 q = true → WaitOk S l p q) ∧ ro = waitTo S i l p q
theorem D_after_wait (h : Has K mg "after_wait" (top 41)) (d1 : Xn P w K mg base 1 "require" ["holds"] (SpX K T CB 1 F_require)) (d2 : Dn P w K mg base 2 "is_state" ["system", "state"] (SpD K T 2 F_is_state)) (d3 : Dn P w K mg base 14 "extended" ["region", "directions"] (SpD K T 2 F_extended)) (d4 : Dn P w K mg base 3 "directions_of" ["system", "location"] (SpD K T 2 F_directions_of))
    (d5 : DnD P w K mg base 13 "spanned" ["n", "points", "rays", "lines"] (SpD K T 4 F_spanned) 2) (d6 : Dn P w K mg base 2 "has_point" ["region", "point"] (SpD K T 2 F_has_point)) (m_list : mg "list" = none) : Xn P w K mg base 15 "after_wait" ["system", "state", "point"] (SpX K T CB 3 F_after_wait) := by
  have nd := sc_after_wait.nd
  obtain ⟨_, _, G_require, m_require, k_require, b_require⟩ := d1
  obtain ⟨_, _, G_is_state, m_is_state, k_is_state, b_is_state⟩ := d2
  obtain ⟨_, _, G_extended, m_extended, k_extended, b_extended⟩ := d3
  obtain ⟨_, _, G_directions_of, m_directions_of, k_directions_of, b_directions_of⟩ := d4
  obtain ⟨_, _, G_spanned, m_spanned, k_spanned, _, dvs, dsv, rd_spanned, bd_spanned, hda⟩ := d5
  obtain ⟨_, _, G_has_point, m_has_point, k_has_point, b_has_point⟩ := d6
  refine mkX (m := 3) h sc_after_wait rfl rfl (fun _ _ _ _ _ _ us hl => match us, hl with | [_, _, _], _ => rfl) fun f cdv A outer s H E hr => ⟨_, pss_cons (ps_asg (pv 1) (pg_tup rfl (pgs_cons (pg_name (i := 3) nd rfl (Or.inl rfl)) (pgs_cons (pg_name (i := 4) nd rfl (Or.inl rfl)) pgs_nil)))) (pss_cons (ps_expr (pe_call G_require (hr.mono (by decide)) (by rfl) m_require k_require b_require .nil (passes_call (takes_of (E := E) rfl rfl rfl rfl) (fun _ _ _ _ h => h)) (pa_cons (pe_call G_is_state (hr.mono (by decide)) (by rfl) m_is_state k_is_state b_is_state .nil pass0 (pa_cons (pv 0) (pa_cons (pe_tup (pa_cons (pv 3) (pa_cons (pv 2) pa_nil))) pa_nil))) pa_nil))) (pss_cons (ps_set (i := 5) nd rfl (Or.inl rfl) (pe_call G_extended (hr.mono (by decide)) (by rfl) m_extended k_extended b_extended .nil pass0 (pa_cons (pe_call G_spanned (hr.mono (by decide)) (by rfl) m_spanned k_spanned bd_spanned rd_spanned pass0 (pa_cons (pe_ix ix_tup (pv 0) (pe_int) (fun _ _ => rfl)) (pa_cons (pe_lst (pa_cons (pv 4) pa_nil)) pa_nil))) (pa_cons (pe_call G_directions_of (hr.mono (by decide)) (by rfl) m_directions_of k_directions_of b_directions_of .nil pass0 (pa_cons (pv 0) (pa_cons (pv 3) pa_nil))) pa_nil)))) (pss_cons (ps_expr (pe_call G_require (hr.mono (by decide)) (by rfl) m_require k_require b_require .nil (passes_call (takes_of (E := E) rfl rfl rfl rfl) (fun _ _ _ _ h => h)) (pa_cons (pe_call G_has_point (hr.mono (by decide)) (by rfl) m_has_point k_has_point b_has_point .nil pass0 (pa_cons (pv 5) (pa_cons (pv 2) pa_nil))) pa_nil))) (pss_one (ps_ret (pe_tup (pa_cons (pv 3) (pa_cons (pe_callTy call_list_of (by rfl) m_list (by decide +kernel) (pa_cons (pv 2) pa_nil)) pa_nil)))))))), ?_⟩
  rintro ds ro ⟨S, i, l, p, q, rfl, hl, ok, hq, wok, rfl⟩ _
  have asg : Run K T (tAsg (tVar 1) (gTup K 2 (gCons (gName 3) (gCons (gName 4) gNil)))) (args [dSys S, .tuple [.int (i : Nat), dV p], dV q] 3) (.nx [.d (dSys S), .d (.tuple [.int (i : Nat), dV p]), .d (dV q), .d (.int (i : Nat)), .d (dV p), .un]) := run_asg (ev_var (i := 1) rfl) (tg_tup (tgs_cons (tg_name (by simp [args])) (tgs_cons (tg_name (by simp [args])) tgs_nil)) rfl)
  have st : EvA K T (tCons (tCall (SpD K T 2 F_is_state) [] E0 (tCons (tVar 0) (tCons (tTup (tCons (tVar 3) (tCons (tVar 2) tNil))) tNil))) tNil) [.d (dSys S), .d (.tuple [.int (i : Nat), dV p]), .d (dV q), .d (.int (i : Nat)), .d (dV p), .un] [.bool (holdsB l.1 q)] :=
    ea_cons (ev_call (ea_cons (ev_var (i := 0) rfl) (ea_cons (ev_tup (ea_cons (ev_var (i := 3) rfl) (ea_cons (ev_var (i := 2) rfl) ea_nil)) (by simp)) ea_nil)) ⟨S, i, l, q, rfl, hl, ok.inv, ok.cnt, hq, rfl⟩ rfl) ea_nil
  unfold waitTo
  cases hb : holdsB l.1 q with
  | false =>
    rw [hb] at st
    exact ⟨fun r z => by simp at z, fun _ => rx_seq2 asg (rx_seq1 (rx_drop (er_callX st ⟨false, rfl, rfl⟩ rfl)))⟩
  | true =>
    rw [hb] at st
    have wk := wok hb
    have sprun : EvE K T _ [.d (dSys S), .d (.tuple [.int (i : Nat), dV p]), .d (dV q), .d (.int (i : Nat)), .d (dV p), .un] (dPoly (reach S l p)) :=
      ev_call (E := E0) (ea_cons (ev_callD (E := E0) (dvs := dvs) (es := List.replicate 2 (.tuple [])) (ea_cons (ev_op (ev_var (i := 0) rfl) (ev_int (i := 0)) (op_ixT (i := 0) (at_nat (i := 0) rfl))) (ea_cons (en_lst (ea_cons (ev_var (i := 4) rfl) ea_nil) (by simp)).e ea_nil)) (F := F_spanned) (n := 4) (r := dPoly (FM.spanned S.n [p] [] [])) ⟨S.n, [p], [], [], .tuple [], .tuple [], rfl, .unit, .unit, wk.ext.n12, wk.sp, ⟨(fun x hx => nomatch hx), (fun x hx => nomatch hx), by simp⟩, ⟨(fun x hx => nomatch hx), (fun x hx => nomatch hx), by simp⟩, by simp, rfl⟩ rfl hda)
        (ea_cons (ev_call (E := E0) (ea_cons (ev_var (i := 0) rfl) (ea_cons (ev_var (i := 3) rfl) ea_nil)) (F := F_directions_of) (n := 2) (r := dVs (dirsOf l.2)) ⟨S, i, l, rfl, hl, ok.rates, ok.rcnt, rfl⟩ rfl) ea_nil)) (F := F_extended) (n := 2) ⟨S.n, _, _, rfl, wk.ext, rfl⟩ rfl
    have hp : EvA K T (tCons (tCall (SpD K T 2 F_has_point) [] E0 (tCons (tVar 5) (tCons (tVar 2) tNil))) tNil) [.d (dSys S), .d (.tuple [.int (i : Nat), dV p]), .d (dV q), .d (.int (i : Nat)), .d (dV p), .d (dPoly (reach S l p))] [.bool (FM.hasPoint (reach S l p) q)] :=
      ea_cons (ev_call (ea_cons (ev_var (i := 5) rfl) (ea_cons (ev_var (i := 2) rfl) ea_nil)) ⟨S.n, _, q, rfl, by have := wk.ext.n12; omega, wk.eqs, wk.fac, hq, rfl⟩ rfl) ea_nil
    have pre := run_drop (ev_callX (E := E) (c := CB) (n := 1) (F := F_require) (r := .none) st ⟨true, rfl, rfl⟩ rfl)
    cases hz : FM.hasPoint (reach S l p) q with
    | false =>
      rw [hz] at hp
      exact ⟨fun r z => by simp at z, fun _ => rx_seq2 asg (rx_seq2 pre (rx_seq2 (run_set sprun (by simp)) (rx_seq1 (rx_drop (er_callX hp ⟨false, rfl, rfl⟩ rfl)))))⟩
    | true =>
      rw [hz] at hp
      refine ⟨fun r z => ?_, fun z => by simp at z⟩
      obtain rfl : .tuple [.int (i : Nat), dV q] = r := by simpa using z
      refine .inl (run_seq asg (run_seq pre (run_seq (run_set sprun (by simp)) (run_seq (run_drop (ev_callX (E := E) (c := CB) hp ⟨true, rfl, rfl⟩ rfl)) (run_ret (ev_tup (ea_cons (ev_var (i := 3) rfl) (ea_cons (en_list (ev_var (i := 2) rfl)).e ea_nil)) (by simp)))))))
abbrev n_leads_to : List Str := ["system", "state", "step"]
theorem sc_leads_to : FnScope n_leads_to ["system", "state", "step"] (defScope (top 43)) := ⟨rfl, rfl, rfl, by decide +kernel, rfl, by decide +kernel, by decide +kernel⟩
def F_leads_to (ds : List PyData) (ro : Option PyData) : Prop := ∃ (S : Sys) (i : Nat) (l : Loc) (p q : List Int), ds = [dSys S, .tuple [.int (i : Nat), dV p], .tuple [.str "wait", dV q]] ∧ S.locs[i]? = some l ∧ LocOk l ∧ Bd 300000 p ∧ Bd 300000 q ∧ holdsB l.1 p = true ∧ (holdsB l.1 q = true → WaitOk S l p q) ∧ ro = waitTo S i l p q
theorem D_leads_to (h : Has K mg "leads_to" (top 43)) (d1 : Xn P w K mg base 1 "require" ["holds"] (SpX K T CB 1 F_require)) (d2 : Dn P w K mg base 2 "is_state" ["system", "state"] (SpD K T 2 F_is_state)) (d3 : Xn P w K mg base 15 "after_wait" ["system", "state", "point"] (SpX K T CB 3 F_after_wait)) : Xn P w K mg base 16 "leads_to" ["system", "state", "step"] (SpX K T CB 3 F_leads_to) := by
  have nd := sc_leads_to.nd
  obtain ⟨_, _, G_require, m_require, k_require, b_require⟩ := d1
  obtain ⟨_, _, G_is_state, m_is_state, k_is_state, b_is_state⟩ := d2
  obtain ⟨_, _, G_after_wait, m_after_wait, k_after_wait, b_after_wait⟩ := d3
  refine mkX (m := 0) h sc_leads_to rfl rfl (fun _ _ _ _ _ _ us hl => match us, hl with | [_, _, _], _ => rfl) fun f cdv A outer s H E hr => ⟨_, pss_cons (ps_expr (pe_call G_require (hr.mono (by decide)) (by rfl) m_require k_require b_require .nil (passes_call (takes_of (E := E) rfl rfl rfl rfl) (fun _ _ _ _ h => h)) (pa_cons (pe_call G_is_state (hr.mono (by decide)) (by rfl) m_is_state k_is_state b_is_state .nil pass0 (pa_cons (pv 0) (pa_cons (pv 1) pa_nil))) pa_nil))) (pss_cons (ps_if (pt_cmpR op_eq (pe_ix ix_tup (pv 2) (pe_int) (fun _ _ => rfl)) (pe_str) (nomark _)) (pss_one (ps_ret (pe_call G_after_wait (hr.mono (by decide)) (by rfl) m_after_wait k_after_wait b_after_wait .nil (passes_call (takes_of (E := E) rfl rfl rfl rfl) (fun _ _ _ _ h => h)) (pa_cons (pv 0) (pa_cons (pv 1) (pa_cons (pe_ix ix_tup (pv 2) (pe_int) (fun _ _ => rfl)) pa_nil)))))) (pss_nil)) (pss_one (ps_never))), ?_⟩
  rintro ds ro ⟨S, i, l, p, q, rfl, hl, ok, hp, hq, hb, wok, rfl⟩ _
  have st : EvA K T (tCons (tCall (SpD K T 2 F_is_state) [] E0 (tCons (tVar 0) (tCons (tVar 1) tNil))) tNil) (args [dSys S, .tuple [.int (i : Nat), dV p], .tuple [.str "wait", dV q]] 0) [.bool true] :=
    ea_cons (ev_call (ea_cons (ev_var (i := 0) rfl) (ea_cons (ev_var (i := 1) rfl) ea_nil)) ⟨S, i, l, p, rfl, hl, ok.inv, ok.cnt, hp, by rw [← hb]; rfl⟩ rfl) ea_nil
  have pre := run_drop (ev_callX (E := E) (c := CB) (n := 1) (F := F_require) (r := .none) st ⟨true, rfl, rfl⟩ rfl)
  have tst : EvT K T (tTest (tOp rEq (tOp (rIxT K) (tVar 2) (tC (.int 0))) (tC (.str "wait")))) (args [dSys S, .tuple [.int (i : Nat), dV p], .tuple [.str "wait", dV q]] 0) true := by
    refine et_eq (et_test (ev_op (ev_op (ev_var (i := 2) rfl) (ev_int (i := 0)) (op_ixT (i := 0) (at_nat (i := 0) rfl))) ev_str (op_scal (i := .str "wait") (j := .str "wait") (fun K Av H v d => by cases d; rfl) (fun K Av H v d => by cases d; rfl) rfl))) (by simp)
  have ar : EvA K T (tCons (tVar 0) (tCons (tVar 1) (tCons (tOp (rIxT K) (tVar 2) (tC (.int 1))) tNil))) (args [dSys S, .tuple [.int (i : Nat), dV p], .tuple [.str "wait", dV q]] 0) [dSys S, .tuple [.int (i : Nat), dV p], dV q] :=
    ea_cons (ev_var (i := 0) rfl) (ea_cons (ev_var (i := 1) rfl) (ea_cons (ev_op (ev_var (i := 2) rfl) (ev_int (i := 1)) (op_ixT (i := 1) (at_nat (i := 1) rfl))) ea_nil))
  refine ⟨fun r hr => .inl (run_seq pre (run_seqR (run_if tst (fun _ => run_ret (ev_callX (E := E) (c := CB) ar ⟨S, i, l, p, q, rfl, hl, ok, hq, wok, hr.symm⟩ rfl)) (fun q => by cases q)))), fun hr => rx_seq2 pre (rx_seq1 (rx_if tst (fun _ => rx_ret (er_callX ar ⟨S, i, l, p, q, rfl, hl, ok, hq, wok, hr.symm⟩ rfl)) (fun q => by cases q)))⟩
end FD
end
section
set_option Elab.async false
set_option linter.all false
set_option maxRecDepth 100000
set_option maxHeartbeats 4000000
/-! the law's helpers: cell, digits, dot, unit, same, primitive -/
namespace FD
open PySem PySem.Spec PyProof.Rows L2 LamX FW FT FK
section
variable {K : PySem.W.Frag} {T : List (Addr × Str)}
theorem op_divS {i j : Int} (h : 0 < j) (h2 : j.natAbs < 2 ^ 100) : OpD K T (rI CDivW fun i j => .int (i / j)) (.int i) (.int j) (.int (i / j)) :=
  op_div ⟨h, PySem.Flt.log2_lt_of (by decide) (Nat.lt_of_lt_of_le h2 (Nat.pow_le_pow_right (by decide) (by decide)))⟩
theorem op_mulS {i j : Int} (h : i.natAbs < 2 ^ 200) (h2 : j.natAbs < 2 ^ 200) : OpD K T (rI CMulW fun i j => .int (i * j)) (.int i) (.int j) (.int (i * j)) := op_mul (wmul h h2 (by decide))
theorem at_int {α : Type} {ds : List α} {z : Int} {x : α} (h0 : 0 ≤ z) (h : ds[z.toNat]? = some x) : atI ds z = some x := by
  have e : z = (z.toNat : Int) := by omega
  rw [e]
  exact atI_nat (by simpa using h)
theorem get_dV2 {v : List Int} {z : Int} (h0 : 0 ≤ z) (h : z < v.length) : atI (v.map PyData.int) z = some (.int (FM.col v z.toNat)) := at_int h0 (get_dV (by omega))
end
variable {P : Program} {w : World} {K : PySem.W.Frag} {mg : Str → Option Value} {base : Heap} {T : List (Addr × Str)}
abbrev n__law_cell : List Str := ["_law_script", "_law_k"]
theorem sc__law_cell : FnScope n__law_cell ["_law_script", "_law_k"] (defScope (top 45)) := ⟨rfl, rfl, rfl, by decide +kernel, rfl, by decide +kernel, by decide +kernel⟩
def cellM (ns : List Int) (k : Nat) : Nat := if k < ns.length then (FM.col ns k).natAbs else 0
def F_cell (ds : List PyData) (r : PyData) : Prop := ∃ (ns : List Int) (k : Nat), ds = [dV ns, .int (k : Nat)] ∧ r = .int (cellM ns k : Nat)
theorem D_cell (h : Has K mg "_law_cell" (top 45)) (m_len : mg "len" = none) (m_abs : mg "abs" = none) (m_int : mg "int" = none) : Dn P w K mg base 1 "_law_cell" ["_law_script", "_law_k"] (SpD K T 2 F_cell) := by
  have nd := sc__law_cell.nd
  refine mkD (m := 0) h sc__law_cell rfl rfl (fun _ _ _ _ _ _ us hl => match us, hl with | [_, _], _ => rfl) fun f cdv A outer s H E hr => ⟨_, pss_cons (ps_if (pt_cmpR op_lt (pv 1) (pe_callB call_len_seq (by rfl) m_len PySem.boot_len (pa_cons (pv 0) pa_nil)) (nomark _)) (pss_one (ps_ret (pe_callB call_abs (by rfl) m_abs (by decide +kernel) (pa_cons (pe_callTy call_int1 (by rfl) m_int (by decide +kernel) (pa_cons (pe_ix ix_list (pv 0) (pv 1) (fun _ _ => rfl)) pa_nil)) pa_nil)))) (pss_nil)) (pss_one (ps_ret (pe_int))), ?_⟩
  rintro ds r ⟨ns, k, rfl, rfl⟩ _
  refine .inl ?_
  unfold cellM
  have tst : EvT K T _ (args [dV ns, .int (k : Nat)] 0) (decide ((k : Int) < ((ns.map PyData.int).length : Nat))) := et_test (ev_op (ev_var (i := 1) rfl) (ev_len (ev_var (i := 0) rfl)) op_ltI)
  rw [List.length_map] at tst
  by_cases hk : k < ns.length
  · rw [if_pos hk]
    exact run_seqR (run_if tst (fun _ => run_ret (ev_abs (ev_intc (ev_op (ev_var (i := 0) rfl) (ev_var (i := 1) rfl) (op_ixL (at_nat (get_dV hk))))))) (fun q => absurd q (by simp; omega)))
  · rw [if_neg hk]
    exact run_seq (run_if tst (fun q => absurd q (by simp; omega)) (fun _ => run_next)) (run_ret ev_int)
abbrev n__law_digits : List Str := ["_law_cell_here", "_law_base", "_law_most", "_law_digits_here", "_law_large", "_law_k"]
theorem sc__law_digits : FnScope n__law_digits ["_law_cell_here", "_law_base", "_law_most"] (defScope (top 46)) := ⟨rfl, rfl, rfl, by decide +kernel, rfl, by decide +kernel, by decide +kernel⟩
def dstep (large : Bool) (c base : Int) (st : List Int × Int) (k : Nat) : List Int × Int :=
  if large then (st.1 ++ [st.2 % base], st.2 / base) else (st.1 ++ [(c * 48271 + ((k : Int) + 1) * ((k : Int) + 5) * 69621 + c / 97 * (k : Int)) % 2147483647 % base], c)
def digitsS (c base : Int) (k : Nat) : List Int × Int := (List.range k).foldl (dstep (decide (1000000000000000000 ≤ c)) c base) ([], c)
def digits (c base : Int) (most : Nat) : List Int := (digitsS c base most).1
theorem digitsS_succ (c base : Int) (k : Nat) : digitsS c base (k + 1) = dstep (decide (1000000000000000000 ≤ c)) c base (digitsS c base k) k := by
  unfold digitsS
  rw [List.range_succ, List.foldl_append]; rfl
theorem digitsS_small {c base : Int} (h : c < 1000000000000000000) : ∀ k, (digitsS c base k).2 = c
  | 0 => rfl
  | k + 1 => by
    rw [digitsS_succ, show decide (1000000000000000000 ≤ c) = false by simpa using h]
    rfl
theorem digits_len (c base : Int) : ∀ k, (digitsS c base k).1.length = k
  | 0 => rfl
  | k + 1 => by
    rw [digitsS_succ]
    unfold dstep
    split <;> simp [digits_len c base k]
theorem digits_bd {c base : Int} (hb : 0 < base) : ∀ k, ∀ d ∈ (digitsS c base k).1, 0 ≤ d ∧ d < base
  | 0, d, h => nomatch h
  | k + 1, d, h => by
    rw [digitsS_succ] at h
    unfold dstep at h
    split at h
    · rcases List.mem_append.mp h with h | h
      · exact digits_bd hb k d h
      · obtain rfl : d = _ := by simpa using h
        exact ⟨Int.emod_nonneg _ (by omega), Int.emod_lt_of_pos _ hb⟩
    · rcases List.mem_append.mp h with h | h
      · exact digits_bd hb k d h
      · obtain rfl : d = _ := by simpa using h
        exact ⟨Int.emod_nonneg _ (by omega), Int.emod_lt_of_pos _ hb⟩
def F_digits (ds : List PyData) (r : PyData) : Prop := ∃ (c : Nat) (base : Int) (most : Nat), ds = [.int (c : Nat), .int base, .int (most : Nat)] ∧ 0 < base ∧ base < 1000000 ∧ most ≤ 1000 ∧ r = dV (digits c base most)
theorem D_digits (h : Has K mg "_law_digits" (top 46)) (m_range : mg "range" = none) (m_int : mg "int" = none) : Dn P w K mg base 1 "_law_digits" ["_law_cell_here", "_law_base", "_law_most"] (SpD K T 3 F_digits) := by
  have nd := sc__law_digits.nd
  refine mkD (m := 3) h sc__law_digits rfl rfl (fun _ _ _ _ _ _ us hl => match us, hl with | [_, _, _], _ => rfl) fun f cdv A outer s H E hr => ⟨_, pss_cons (ps_set (i := 3) nd rfl (Or.inl rfl) (pe_lst pa_nil)) (pss_cons (ps_set (i := 4) nd rfl (Or.inl rfl) (pe_cmpR op_ge (pv 0) (pe_op op_pow (pe_int) (pe_int)) (nomark _))) (pss_cons (ps_for PassesOwn.never rfl (pi_range1 (by rfl) m_range (pa_cons (pv 2) pa_nil)) (pg_name (i := 5) nd rfl (Or.inl rfl)) (pss_one (ps_if (pt_val (pv 4)) (pss_cons (ps_expr (pe_bm PySem.F.plainAttrs_list PySem.F.slot_list_append PySem.F.type_list_append mt_append (pv 3) (pa_cons (pe_op op_mod (pe_callTy call_int1 (by rfl) m_int (by decide +kernel) (pa_cons (pv 0) pa_nil)) (pv 1)) pa_nil))) (pss_one (ps_set (i := 0) nd rfl (Or.inl rfl) (pe_op op_fdivW (pv 0) (pv 1))))) (pss_one (ps_expr (pe_bm PySem.F.plainAttrs_list PySem.F.slot_list_append PySem.F.type_list_append mt_append (pv 3) (pa_cons (pe_op op_mod (pe_op op_mod (pe_callTy call_int1 (by rfl) m_int (by decide +kernel) (pa_cons (pe_op op_add (pe_op op_add (pe_op op_mulW (pv 0) (pe_int)) (pe_op op_mulW (pe_op op_mulW (pe_op op_add (pv 5) (pe_int)) (pe_op op_add (pv 5) (pe_int))) (pe_int))) (pe_op op_mulW (pe_op op_fdivW (pv 0) (pe_int)) (pv 5))) pa_nil)) (pe_int)) (pv 1)) pa_nil))))))) (pss_one (ps_ret (pv 3))))), ?_⟩
  rintro ds r ⟨c, bs, most, rfl, hb, hb2, hm, rfl⟩ _
  refine .inl ?_
  refine run_seq (run_setN (en_lst ea_nil (by simp)) (by simp [args])) ?_
  refine run_seq (run_set (x := .bool (decide ((1000000000000000000 : Int) ≤ (c : Int)))) (ev_eq (ev_op (ev_var (i := 0) rfl) (ev_op (ev_int (i := 10)) (ev_int (i := 18)) (op_powI ⟨by decide, by decide, by decide⟩)) op_geI) rfl) (by simp [args])) ?_
  refine run_seq (run_forN (ei_range1 (ea_cons (ev_var (i := 2) rfl) ea_nil) (by omega) (by omega)) (fun i => [.d (.int (digitsS c bs i).2), .d (.int bs), .d (.int (most : Nat)), .own ((digitsS c bs i).1.map PyData.int), .d (.bool (decide ((1000000000000000000 : Int) ≤ (c : Int)))), .un]) rfl (fun i => by simp) (fun i x hx => ?_)) ?_
  · rw [List.getElem?_map, Option.map_eq_some_iff] at hx
    obtain ⟨j, hj, rfl⟩ := hx
    obtain ⟨h1, h2⟩ := List.getElem?_eq_some_iff.mp hj
    rw [List.getElem_range] at h2
    rw [List.length_range, Int.toNat_natCast] at h1
    subst h2
    have dl := digits_len c bs i
    have ds2 : (c : Int) < 1000000000000000000 → (digitsS c bs i).2 = c := fun h => digitsS_small h i
    rw [digitsS_succ]
    generalize digitsS c bs i = st at dl ds2 ⊢
    unfold dstep
    by_cases hlarge : (1000000000000000000 : Int) ≤ (c : Int)
    · have e : decide ((1000000000000000000 : Int) ≤ (c : Int)) = true := by simpa using hlarge
      rw [e]
      refine ⟨_, .inl (run_if (b := true) (et_B (ev_var (i := 4) rfl)) (fun _ => run_seq (run_app (i := 3) rfl (ev_op (ev_intc (ev_var (i := 0) rfl)) (ev_var (i := 1) rfl) (op_modI hb)) (by simp; omega)) (run_set (i := 0) (ev_op (ev_var (i := 0) rfl) (ev_var (i := 1) rfl) (op_divS hb (Nat.lt_of_lt_of_le (show bs.natAbs < 1000000 by omega) (by decide)))) (by simp))) (fun q => by cases q)), ?_⟩
      simp
    · have e : decide ((1000000000000000000 : Int) ≤ (c : Int)) = false := by simpa using hlarge
      have e2 : st.2 = c := ds2 (by omega)
      rw [e, e2]
      have k1 : (i : Int) < 1000 := by omega
      have sm : ∀ z : Int, z.natAbs < 1000000000000000000 → z.natAbs < 2 ^ 200 := fun z h => Nat.lt_of_lt_of_le h (by decide)
      refine ⟨_, .inl (run_if (b := false) (et_B (ev_var (i := 4) rfl)) (fun q => by cases q) (fun _ => run_app (i := 3) rfl (ev_op (ev_op (ev_intc (ev_op (ev_op (ev_op (ev_var (i := 0) rfl) (ev_int (i := 48271)) (op_mulS (sm _ (by omega)) (sm _ (by decide)))) (ev_op (ev_op (ev_op (ev_var (i := 5) rfl) (ev_int (i := 1)) op_add) (ev_op (ev_var (i := 5) rfl) (ev_int (i := 5)) op_add) (op_mulS (sm _ (by omega)) (sm _ (by omega)))) (ev_int (i := 69621)) (op_mulS ?_ (sm _ (by decide)))) op_add) (ev_op (ev_op (ev_var (i := 0) rfl) (ev_int (i := 97)) (op_divS (by decide) (by decide))) (ev_var (i := 5) rfl) (op_mulS ?_ (sm _ (by omega)))) op_add)) (ev_int (i := 2147483647)) (op_modI (by decide))) (ev_var (i := 1) rfl) (op_modI hb)) (by simp; omega))), ?_⟩
      · exact Nat.lt_of_lt_of_le (wide_lt (a := 10) (b := 11) (show ((i : Int) + 1).natAbs < 2 ^ 10 by omega) (show ((i : Int) + 5).natAbs < 2 ^ 11 by omega)) (by decide)
      · exact sm _ (by omega)
      · simp
  · rw [List.length_map, List.length_range, Int.toNat_natCast]
    refine run_freeze (i := 3) rfl (run_ret (ev_var (i := 3) rfl))
abbrev n__law_dot : List Str := ["_law_first", "_law_second", "_law_k"]
theorem sc__law_dot : FnScope n__law_dot ["_law_first", "_law_second"] (defScope (top 47)) := ⟨rfl, rfl, rfl, by decide +kernel, rfl, by decide +kernel, by decide +kernel⟩
def F_ldot (ds : List PyData) (r : PyData) : Prop := ∃ u v : List Int, ds = [dV u, dV v] ∧ Bd 400000 u ∧ Bd 400000 v ∧ u.length ≤ v.length ∧ u.length ≤ 1000 ∧ r = .int (FM.dot u v)
theorem dot_range : ∀ u v : List Int, u.length ≤ v.length → ((List.range u.length).map fun k => FM.col u k * FM.col v k).sum = FM.dot u v
  | [], v, _ => by simp
  | x :: u, [], h => by simp at h
  | x :: u, y :: v, h => by
    rw [List.length_cons, List.range_succ_eq_map, List.map_cons, List.map_map, List.sum_cons, FM.dot_cons, ← dot_range u v (by simpa using h)]
    rfl
theorem D_ldot (h : Has K mg "_law_dot" (top 47)) (m_range : mg "range" = none) (m_sum : mg "sum" = none) (m_len : mg "len" = none) : Dn P w K mg base 1 "_law_dot" ["_law_first", "_law_second"] (SpD K T 2 F_ldot) := by
  have nd := sc__law_dot.nd
  refine mkD (m := 1) h sc__law_dot rfl rfl (fun _ _ _ _ _ _ us hl => match us, hl with | [_, _], _ => rfl) fun f cdv A outer s H E hr => ⟨_, pss_one (ps_ret (pe_callB (cr_sum rfl) (by rfl) m_sum (by decide +kernel) (by exact (pa_cons (pe_lc (own := [("_law_k", 2)]) rfl nd (pi_range1 (by rfl) m_range (pa_cons (pe_callB call_len_seq (by rfl) m_len PySem.boot_len (pa_cons (pv 0) pa_nil)) pa_nil)) (blkOk_by (own := [("_law_k", 2)]) (N := n__law_dot) (sc := defScope (top 47)) (by decide +kernel)) (fun _ _ _ _ _ => pg_name (i := 2) nd rfl (Or.inl rfl)) (fun _ _ _ _ _ => pts_nil) (fun _ _ _ _ _ => pe_op op_mulW (pe_ix (ix_listK (K := K) rfl) (pv 0) (pv 2) (fun _ _ => rfl)) (pe_ix (ix_listK (K := K) rfl) (pv 1) (pv 2) (fun _ _ => rfl)))) pa_nil)))), ?_⟩
  rintro ds r ⟨u, v, rfl, hu, hv, hl, hl2, rfl⟩ _
  refine .inl (run_ret ?_)
  rw [← dot_range u v hl]
  refine ev_sum (ev_eq (en_map (ei_range1 (ea_cons (ev_len (ev_var (i := 0) rfl)) ea_nil) (by simp; omega) (by omega)) (fun d => .int (FM.col u (unI d).toNat * FM.col v (unI d).toNat)) (vs := [2]) (by simp [args]) (fun x => [.d (dV u), .d (dV v), .d x]) (by simp; omega) (ws := [2]) (by simp) (fun x hx => tg_name (by simp [wipeE, args])) (fun x hx => ?_)).e ?_)
  · obtain ⟨k, hk, rfl⟩ := List.mem_map.mp hx
    rw [List.mem_range, Int.toNat_natCast, List.length_map] at hk
    refine ev_op (ev_op (ev_var (i := 0) rfl) (ev_var (i := 2) rfl) (op_ixL (at_nat (get_dV hk)))) (ev_op (ev_var (i := 1) rfl) (ev_var (i := 2) rfl) (op_ixL (at_nat (get_dV (by omega))))) (op_mul (wmul (col_bd hu hk) (col_bd hv (by omega)) (by decide)))
  · rw [List.map_map, List.map_map, Int.toNat_natCast, List.length_map]
    congr 1
abbrev n__law_unit : List Str := ["_law_size", "_law_column", "_law_item", "_law_first", "_law_row"]
theorem sc__law_unit : FnScope n__law_unit ["_law_size", "_law_column", "_law_item", "_law_first"] (defScope (top 49)) := ⟨rfl, rfl, rfl, by decide +kernel, rfl, by decide +kernel, by decide +kernel⟩
def unitM (size col : Nat) (item first : Int) : List Int := ((List.replicate size (0 : Int)).set col item).set 0 (FM.col ((List.replicate size (0 : Int)).set col item) 0 + first)
def F_unit (ds : List PyData) (r : PyData) : Prop := ∃ (size col : Nat) (item first : Int), ds = [.int (size : Nat), .int (col : Nat), .int item, .int first] ∧ col < size ∧ size ≤ 1000 ∧ r = dV (unitM size col item first)
theorem D_unit (h : Has K mg "_law_unit" (top 49)) : Dn P w K mg base 1 "_law_unit" ["_law_size", "_law_column", "_law_item", "_law_first"] (SpD K T 4 F_unit) := by
  have nd := sc__law_unit.nd
  refine mkD (m := 1) h sc__law_unit rfl rfl (fun _ _ _ _ _ _ us hl => match us, hl with | [_, _, _, _], _ => rfl) fun f cdv A outer s H E hr => ⟨_, pss_cons (ps_set (i := 4) nd rfl (Or.inl rfl) (pe_op op_rep (pe_lst (pa_cons (pe_int) pa_nil)) (pv 0))) (pss_cons (ps_asg (pv 2) (pg_sub (pv 4) (pv 1) set_list)) (pss_cons (ps_asg (pe_op op_add (pe_ix ix_list (pv 4) (pe_int) (fun _ _ => rfl)) (pv 3)) (pg_sub (pv 4) (pe_int) set_list)) (pss_one (ps_ret (pv 4))))), ?_⟩
  rintro ds r ⟨size, col, item, first, rfl, hc, hs, rfl⟩ _
  refine .inl ?_
  have e0 : List.replicate size (PyData.int 0) = (List.replicate size (0 : Int)).map PyData.int := by simp
  refine run_seq (run_setN (en_rep (en_lst (ea_cons (ev_int (i := 0)) ea_nil) (by simp)).e (ev_var (i := 0) rfl) hs) (by simp [args])) ?_
  rw [e0]
  refine run_seq (run_setItem (i := 4) (k := col) rfl (ev_var (i := 2) rfl) (ev_var (i := 1) rfl) (by simp; exact hc)) ?_
  rw [← List.map_set]
  refine run_seq (run_setItem (i := 4) (k := 0) (x := .int (FM.col ((List.replicate size (0 : Int)).set col item) 0 + first)) (xs := ((List.replicate size (0 : Int)).set col item).map PyData.int) rfl (ev_op (ev_thaw (i := 4) rfl (ev_op (ev_var (i := 4) rfl) (ev_int (i := 0)) (op_ixL (i := 0) (at_nat (i := 0) (get_dV (by simp; omega))))) thaw_int) (ev_var (i := 3) rfl) op_add) ev_int (by simp; omega)) ?_
  refine run_freeze (i := 4) rfl (run_ret (ev_eq (ev_var (i := 4) rfl) ?_))
  unfold unitM dV
  simp only [List.map_set]
abbrev n__law_same : List Str := ["_law_n", "_law_k", "_law_row", "_law_item"]
theorem sc__law_same : FnScope n__law_same ["_law_n", "_law_k"] (defScope (top 51)) := ⟨rfl, rfl, rfl, by decide +kernel, rfl, by decide +kernel, by decide +kernel⟩
def sameRow (n k : Nat) : List Int := ((List.replicate (2 * n + 1) (0 : Int)).set (1 + k) (-1)).set (1 + n + k) 1
def F_same (ds : List PyData) (r : PyData) : Prop := ∃ (n k : Nat), ds = [.int (n : Nat), .int (k : Nat)] ∧ k < n ∧ n ≤ 100 ∧ r = dVs [sameRow n k, FM.neg (sameRow n k)]
theorem D_same (h : Has K mg "_law_same" (top 51)) : Dn P w K mg base 1 "_law_same" ["_law_n", "_law_k"] (SpD K T 2 F_same) := by
  have nd := sc__law_same.nd
  refine mkD (m := 2) h sc__law_same rfl rfl (fun _ _ _ _ _ _ us hl => match us, hl with | [_, _], _ => rfl) fun f cdv A outer s H E hr => ⟨_, pss_cons (ps_set (i := 2) nd rfl (Or.inl rfl) (pe_op op_rep (pe_lst (pa_cons (pe_int) pa_nil)) (pe_op op_add (pe_op op_mulW (pe_int) (pv 0)) (pe_int)))) (pss_cons (ps_asg (pe_op op_sub (pe_int) (pe_int)) (pg_sub (pv 2) (pe_op op_add (pe_int) (pv 1)) set_list)) (pss_cons (ps_asg (pe_int) (pg_sub (pv 2) (pe_op op_add (pe_op op_add (pe_int) (pv 0)) (pv 1)) set_list)) (pss_one (ps_ret (pe_lst (pa_cons (pv 2) (pa_cons (pe_lc (own := [("_law_item", 3)]) rfl nd (pi_list (pv 2)) (blkOk_by (own := [("_law_item", 3)]) (N := n__law_same) (sc := defScope (top 51)) (by decide +kernel)) (fun _ _ _ _ _ => pg_name (i := 3) nd rfl (Or.inl rfl)) (fun _ _ _ _ _ => pts_nil) (fun _ _ _ _ _ => pe_op op_sub (pe_int) (pv 3))) pa_nil))))))), ?_⟩
  rintro ds r ⟨n, k, rfl, hk, hn, rfl⟩ _
  refine .inl ?_
  have e0 : List.replicate (2 * n + 1) (PyData.int 0) = (List.replicate (2 * n + 1) (0 : Int)).map PyData.int := by simp
  refine run_seq (run_setN (en_rep (n := 2 * n + 1) (en_lst (ea_cons (ev_int (i := 0)) ea_nil) (by simp)).e (ev_eq (ev_op (ev_op (ev_int (i := 2)) (ev_var (i := 0) rfl) (op_mulS (by decide) (Nat.lt_of_lt_of_le (show _ < 10000 by omega) (by decide)))) (ev_int (i := 1)) op_add) (by simp)) (by omega)) (by simp [args])) ?_
  rw [e0]
  refine run_seq (run_setItem (i := 2) (k := 1 + k) (x := .int (-1)) rfl (ev_op (ev_int (i := 0)) (ev_int (i := 1)) op_sub) (ev_eq (ev_op (ev_int (i := 1)) (ev_var (i := 1) rfl) op_add) (by simp)) (by simp; omega)) ?_
  rw [← List.map_set]
  refine run_seq (run_setItem (i := 2) (k := 1 + n + k) (x := .int 1) (xs := ((List.replicate (2 * n + 1) (0 : Int)).set (1 + k) (-1)).map PyData.int) rfl ev_int (ev_eq (ev_op (ev_op (ev_int (i := 1)) (ev_var (i := 0) rfl) op_add) (ev_var (i := 1) rfl) op_add) (by simp)) (by simp; omega)) ?_
  refine run_freeze (i := 2) rfl ?_
  have e1 : PyData.list (List.set (((List.replicate (2 * n + 1) (0 : Int)).set (1 + k) (-1)).map PyData.int) (1 + n + k) (.int 1)) = dV (sameRow n k) := by unfold sameRow dV; simp only [List.map_set]
  rw [e1]
  have ls : (sameRow n k).length ≤ 1000 := by unfold sameRow; simp; omega
  generalize sameRow n k = R at ls ⊢
  refine run_ret (en_lst (ea_cons (ev_var (i := 2) rfl) (ea_cons (ev_eq (en_map (ei_list (ev_var (i := 2) rfl)) (fun d => .int (0 - unI d)) (vs := [3]) (by simp [args]) (fun x => [.d (.int (n : Nat)), .d (.int (k : Nat)), .d (dV R), .d x]) (by simp; omega) (ws := [3]) (by simp) (fun x hx => tg_name (by simp [wipeE, args])) (fun x hx => ?_)).e ?_) ea_nil)) (by simp)).e
  · obtain ⟨y, _, rfl⟩ := List.mem_map.mp hx
    exact ev_op (ev_int (i := 0)) (ev_var (i := 3) rfl) op_sub
  · show _ = dV (FM.neg R)
    unfold dV FM.neg; rw [List.map_map, List.map_map]; congr 1; exact List.map_congr_left fun o _ => by simp [unI]
end FD
end
section
set_option Elab.async false
set_option linter.all false
set_option maxRecDepth 100000
set_option maxHeartbeats 4000000
/-! the law's helpers: primitive, holds, box -/
namespace FD
open PySem PySem.Spec PyProof.Rows L2 LamX FW FT FK
/-! ### Euclid -/
def euS (p : Nat × Nat) : Nat × Nat := if p.2 = 0 then p else (p.2, p.1 % p.2)
def eu (p : Nat × Nat) : Nat → Nat × Nat
  | 0 => p
  | i + 1 => euS (eu p i)
theorem eu_gcd (p : Nat × Nat) : ∀ i, Nat.gcd (eu p i).1 (eu p i).2 = Nat.gcd p.1 p.2
  | 0 => rfl
  | i + 1 => by
    rw [← eu_gcd p i]
    show Nat.gcd (euS (eu p i)).1 (euS (eu p i)).2 = _
    generalize eu p i = q
    unfold euS
    split
    · rfl
    · show Nat.gcd q.2 (q.1 % q.2) = _
      rw [Nat.gcd_comm q.2, ← Nat.gcd_rec, Nat.gcd_comm]
theorem eu_half (q : Nat × Nat) : 2 * (euS (euS q)).2 ≤ q.2 := by
  by_cases h : q.2 = 0
  · have e : euS q = q := if_pos h
    rw [e, e]; omega
  · have e : euS q = (q.2, q.1 % q.2) := if_neg h
    rw [e]
    have lt := Nat.mod_lt q.1 (Nat.pos_of_ne_zero h)
    generalize q.1 % q.2 = r at lt
    by_cases h2 : r = 0
    · subst h2
      show 2 * (euS (q.2, 0)).2 ≤ q.2
      have : euS (q.2, 0) = (q.2, 0) := if_pos rfl
      rw [this]; omega
    · have e2 : euS (q.2, r) = (r, q.2 % r) := if_neg h2
      rw [e2]
      show 2 * (q.2 % r) ≤ q.2
      have l2 := Nat.mod_lt q.2 (Nat.pos_of_ne_zero h2)
      have d := Nat.div_add_mod q.2 r
      have : 0 < q.2 / r := Nat.div_pos (Nat.le_of_lt lt) (Nat.pos_of_ne_zero h2)
      have : r * 1 ≤ r * (q.2 / r) := Nat.mul_le_mul_left _ this
      omega
theorem eu_pow (p : Nat × Nat) : ∀ k, 2 ^ k * (eu p (2 * k)).2 ≤ p.2
  | 0 => by simp [eu]
  | k + 1 => by
    have ih := eu_pow p k
    have h := eu_half (eu p (2 * k))
    have e : eu p (2 * (k + 1)) = euS (euS (eu p (2 * k))) := rfl
    rw [e, Nat.pow_succ]
    generalize (euS (euS (eu p (2 * k)))).2 = x at h
    generalize (eu p (2 * k)).2 = y at h ih
    have : 2 ^ k * (2 * x) ≤ 2 ^ k * y := Nat.mul_le_mul_left _ h
    rw [Nat.mul_assoc]; omega
theorem eu_ends {p : Nat × Nat} {k : Nat} (h : p.2 < 2 ^ k) : (eu p (2 * k)).2 = 0 := by
  have := eu_pow p k
  refine Classical.byContradiction fun no => ?_
  have : 2 ^ k * 1 ≤ 2 ^ k * (eu p (2 * k)).2 := Nat.mul_le_mul_left _ (by omega)
  omega
theorem eu_first {p : Nat × Nat} {N : Nat} (h : (eu p N).2 = 0) : ∃ m, m ≤ N ∧ (eu p m).2 = 0 ∧ ∀ i, i < m → (eu p i).2 ≠ 0 := by
  induction N with
  | zero => exact ⟨0, Nat.le_refl _, h, fun i hi => by omega⟩
  | succ N ih =>
    by_cases q : (eu p N).2 = 0
    · obtain ⟨m, h1, h2, h3⟩ := ih q
      exact ⟨m, by omega, h2, h3⟩
    · by_cases all : ∀ i, i < N + 1 → (eu p i).2 ≠ 0
      · exact ⟨N + 1, Nat.le_refl _, h, all⟩
      · refine Classical.byContradiction fun _ => all fun i hi z => ?_
        -- once it is 0 it stays
        have stay : ∀ j, (eu p (i + j)).2 = 0 := fun j => by
          induction j with
          | zero => exact z
          | succ j ihj =>
            show (euS (eu p (i + j))).2 = 0
            have : euS (eu p (i + j)) = eu p (i + j) := if_pos ihj
            rw [this]; exact ihj
        have := stay (N - i)
        rw [show i + (N - i) = N by omega] at this
        exact q this
theorem gcd_lt {d x N : Nat} (h1 : d < N) (h2 : x < N) : Nat.gcd d x < N := by
  rcases Nat.eq_zero_or_pos d with z | z
  · subst z; rw [Nat.gcd_zero_left]; exact h2
  · exact Nat.lt_of_le_of_lt (Nat.gcd_le_left x z) h1
theorem gcdF_lt {N : Nat} (h0 : 0 < N) : ∀ v : List Int, (∀ x ∈ v, x.natAbs < N) → ∀ d, d < N → v.foldl (fun d x => Nat.gcd d x.natAbs) d < N
  | [], _, d, hd => hd
  | x :: v, h, d, hd => gcdF_lt h0 v (fun y hy => h y (by simp [hy])) _ (gcd_lt hd (h x (by simp)))
variable {P : Program} {w : World} {K : PySem.W.Frag} {mg : Str → Option Value} {base : Heap} {T : List (Addr × Str)}
theorem run_par {env : En} {ta : TA} {x y : PyData} {i j : Nat} (h : EvA K T ta env [x, y]) (hi : i < env.length) (hj : j < env.length) : Run K T (tPar i j ta) env (.nx ((env.set i (.d x)).set j (.d y))) := fun Mu Av0 H0 Av σ H D S g =>
  h _ _ _ _ _ _ S _ fun vs H1 e1 t1 d1 => by
    cases d1 with
    | cons a r =>
      cases r with
      | cons b r =>
        cases r
        exact ⟨_, _, rfl, g _ _ _ (((S.grow e1 t1).set a hi).set b (by rw [List.length_set]; exact hj)) (Pres.ext e1)⟩
abbrev n__law_primitive : List Str := ["_law_vector", "_law_divisor", "_law_item", "_law_a", "_law_b", "_law_step"]
theorem sc__law_primitive : FnScope n__law_primitive ["_law_vector"] (defScope (top 48)) := ⟨rfl, rfl, rfl, by decide +kernel, rfl, by decide +kernel, by decide +kernel⟩
def F_lprim (ds : List PyData) (r : PyData) : Prop := ∃ v : List Int, ds = [dV v] ∧ Bd 1800 v ∧ v.length ≤ 1000 ∧ r = dV (FM.primitive v)
theorem D_lprim (h : Has K mg "_law_primitive" (top 48)) (m_range : mg "range" = none) (m_abs : mg "abs" = none) (m_int : mg "int" = none) (m_list : mg "list" = none) : Dn P w K mg base 1 "_law_primitive" ["_law_vector"] (SpD K T 1 F_lprim) := by
  have nd := sc__law_primitive.nd
  refine mkD (m := 5) h sc__law_primitive rfl rfl (fun _ _ _ _ _ _ us hl => match us, hl with | [_], _ => rfl) fun f cdv A outer s H E hr => ⟨_, pss_cons (ps_set (i := 1) nd rfl (Or.inr rfl) (pe_int)) (pss_cons (ps_for PassesOwn.never rfl (pi_list (pv 0)) (pg_name (i := 2) nd rfl (Or.inl rfl)) (pss_cons (ps_set (i := 3) nd rfl (Or.inl rfl) (pe_callB call_abs (by rfl) m_abs (by decide +kernel) (pa_cons (pv 2) pa_nil))) (pss_cons (ps_set (i := 4) nd rfl (Or.inl rfl) (pv 1)) (pss_cons (ps_for PassesOwn.never rfl (pi_range1 (by rfl) m_range (pa_cons (pe_int) pa_nil)) (pg_name (i := 5) nd rfl (Or.inl rfl)) (pss_cons (ps_if (pt_cmpR op_eq (pv 4) (pe_int) (nomark _)) (pss_one (ps_break)) (pss_nil)) (pss_one (ps_par (i := 3) (j := 4) (by rfl) nd rfl rfl (by decide) rfl rfl (pa_cons (pv 4) (pa_cons (pe_op op_mod (pe_callTy call_int1 (by rfl) m_int (by decide +kernel) (pa_cons (pv 3) pa_nil)) (pv 4)) pa_nil)) (by rfl))))) (pss_one (ps_set (i := 1) nd rfl (Or.inr rfl) (pv 3))))))) (pss_cons (ps_if (pt_cmpR op_lt (pv 1) (pe_int) (nomark _)) (pss_one (ps_ret (pe_callTy call_list_of (by rfl) m_list (by decide +kernel) (pa_cons (pv 0) pa_nil)))) (pss_nil)) (pss_one (ps_ret (pe_lc (own := [("_law_item", 2)]) rfl nd (pi_list (pv 0)) (blkOk_by (own := [("_law_item", 2)]) (N := n__law_primitive) (sc := defScope (top 48)) (by decide +kernel)) (fun _ _ _ _ _ => pg_name (i := 2) nd rfl (Or.inl rfl)) (fun _ _ _ _ _ => pts_nil) (fun _ _ _ _ _ => pe_op op_fdivW (pv 2) (pv 1))))))), ?_⟩
  rintro ds r ⟨v, rfl, hv, hl, rfl⟩ _
  refine .inl ?_
  have gl : ∀ i, (v.take i).foldl (fun d x => Nat.gcd d x.natAbs) 0 < 2 ^ 1800 := fun i => gcdF_lt (Nat.two_pow_pos _) _ (fun x hx => hv x (List.mem_of_mem_take hx)) 0 (Nat.two_pow_pos _)
  refine run_seq (run_set (x := .int ((0 : Nat) : Int)) ev_int (by simp [args])) ?_
  refine run_seq (run_forN (ei_list (ev_var (i := 0) rfl)) (fun i => [.d (dV v), .d (.int ((v.take i).foldl (fun d x => Nat.gcd d x.natAbs) 0 : Nat)), .un, .un, .un, .un]) rfl (fun i => by simp) (fun i x hx => ?_)) ?_
  · rw [List.getElem?_map, Option.map_eq_some_iff] at hx
    obtain ⟨z, hz, rfl⟩ := hx
    have zm := List.mem_of_getElem? hz
    have gi := gl i
    have e1 : (v.take (i + 1)).foldl (fun d x => Nat.gcd d x.natAbs) 0 = Nat.gcd ((v.take i).foldl (fun d x => Nat.gcd d x.natAbs) 0) z.natAbs := by
      rw [List.take_add_one, hz, List.foldl_append]; rfl
    rw [e1]
    generalize (v.take i).foldl (fun d x => Nat.gcd d x.natAbs) 0 = d at gi ⊢
    obtain ⟨m, hm, hm0, hmi⟩ := eu_first (eu_ends (p := (z.natAbs, d)) gi)
    have eg : (eu (z.natAbs, d) m).1 = Nat.gcd d z.natAbs := by
      have := eu_gcd (z.natAbs, d) m
      rw [hm0, Nat.gcd_zero_right] at this
      rw [this, Nat.gcd_comm]
    refine (?_ : ∃ y3 y4 y5, Run K T _ _ (.nx [.d (dV v), .d (.int (Nat.gcd d z.natAbs : Nat)), .d (.int z), y3, y4, y5])).elim fun y3 h => h.elim fun y4 h => h.elim fun y5 h => ⟨_, .inl (run_endF 3 (run_endF 4 (run_endF 5 h))), rfl⟩
    refine ⟨.d (.int ((eu (z.natAbs, d) m).1 : Nat)), .d (.int ((eu (z.natAbs, d) m).2 : Nat)), .un, ?_⟩
    refine run_seq (run_set (ev_abs (ev_var (i := 2) rfl)) (by simp)) (run_seq (run_set (ev_var (i := 1) rfl) (by simp)) ?_)
    refine run_seq (env' := [.d (dV v), .d (.int (d : Nat)), .d (.int z), .d (.int ((eu (z.natAbs, d) m).1 : Nat)), .d (.int ((eu (z.natAbs, d) m).2 : Nat)), .un]) ?_ (run_eq (run_set (i := 1) (ev_var (i := 3) rfl) (by simp)) (by rw [eg]; rfl))
    refine run_endF (env' := [.d (dV v), .d (.int (d : Nat)), .d (.int z), .d (.int ((eu (z.natAbs, d) m).1 : Nat)), .d (.int ((eu (z.natAbs, d) m).2 : Nat)), .d (.int (m : Nat))]) 5 ?_
    refine run_for (ws := [5]) (ei_range1 (ea_cons (ev_int (i := 4000)) ea_nil) (by decide) (by decide)) (fun k => [.d (dV v), .d (.int (d : Nat)), .d (.int z), .d (.int ((eu (z.natAbs, d) k).1 : Nat)), .d (.int ((eu (z.natAbs, d) k).2 : Nat)), if k = 0 then .un else .d (.int ((k - 1 : Nat) : Int))])
      (fun k => [.d (dV v), .d (.int (d : Nat)), .d (.int z), .d (.int ((eu (z.natAbs, d) k).1 : Nat)), .d (.int ((eu (z.natAbs, d) k).2 : Nat)), .d (.int (k : Nat))]) rfl m (by simp; omega) (fun k x hx hk => ?_) (fun k x hx hk => .inl ?_) (.inr ⟨by simp; omega, .inr ⟨_, rfl, ?_⟩⟩)
    · rw [List.getElem?_map, Option.map_eq_some_iff] at hx
      obtain ⟨j, hj, rfl⟩ := hx
      obtain ⟨h1, h2⟩ := List.getElem?_eq_some_iff.mp hj
      rw [List.getElem_range] at h2
      subst h2
      exact tg_name (i := 5) (by simp)
    · have nz := hmi k hk
      refine run_seq (run_if (b := false) (et_eq (et_test (ev_op (ev_var (i := 4) rfl) (ev_int (i := 0)) op_eqI)) (by simp; exact nz)) (fun q => by cases q) (fun _ => run_next)) ?_
      have e5 : eu (z.natAbs, d) (k + 1) = ((eu (z.natAbs, d) k).2, (eu (z.natAbs, d) k).1 % (eu (z.natAbs, d) k).2) := if_neg nz
      refine run_eq (run_par (i := 3) (j := 4) (ea_cons (ev_var (i := 4) rfl) (ea_cons (ev_op (ev_intc (ev_var (i := 3) rfl)) (ev_var (i := 4) rfl) (op_modI (by omega))) ea_nil)) (by simp) (by simp)) ?_
      rw [e5]
      simp
    · refine run_seqB (run_if (b := true) (et_eq (et_test (ev_op (ev_var (i := 4) rfl) (ev_int (i := 0)) op_eqI)) (by simp; exact hm0)) (fun _ => run_break) (fun q => by cases q))
  · rw [List.length_map, List.take_length]
    show Run K T _ [.d (dV v), .d (.int (FM.gcdL v : Nat)), .un, .un, .un, .un] _
    have gv := gl v.length
    rw [List.take_length] at gv
    replace gv : FM.gcdL v < 2 ^ 1800 := gv
    unfold FM.primitive
    by_cases hg : FM.gcdL v ≤ 1
    · rw [if_pos hg]
      exact run_seqR (run_if (et_test (ev_op (ev_var (i := 1) rfl) (ev_int (i := 2)) op_ltI)) (fun _ => run_ret (en_list (ev_var (i := 0) rfl)).e) (fun q => absurd q (by simp; omega)))
    · rw [if_neg hg]
      refine run_seq (run_if (et_test (ev_op (ev_var (i := 1) rfl) (ev_int (i := 2)) op_ltI)) (fun q => absurd q (by simp; omega)) (fun _ => run_next)) ?_
      refine run_ret (ev_eq (en_map (ei_list (ev_var (i := 0) rfl)) (fun d => .int (unI d / (FM.gcdL v : Nat))) (vs := [2]) (by simp) (fun x => [.d (dV v), .d (.int (FM.gcdL v : Nat)), .d x, .un, .un, .un]) (by simp; omega) (ws := [2]) (by simp) (fun x hx => tg_name (by simp [wipeE])) (fun x hx => ?_)).e ?_)
      · obtain ⟨z, _, rfl⟩ := List.mem_map.mp hx
        exact ev_op (ev_var (i := 2) rfl) (ev_var (i := 1) rfl) (op_div ⟨by omega, PySem.Flt.log2_lt_of (by decide) (by rw [Int.natAbs_natCast]; exact Nat.lt_trans gv (Nat.pow_lt_pow_right (by decide) (by decide)))⟩)
      · unfold dV; rw [List.map_map, List.map_map]; rfl
abbrev n__law_holds : List Str := ["_law_conditions", "_law_point", "_law_condition"]
theorem sc__law_holds : FnScope n__law_holds ["_law_conditions", "_law_point"] (defScope (top 56)) := ⟨rfl, rfl, rfl, by decide +kernel, rfl, by decide +kernel, by decide +kernel⟩
def F_lholds (ds : List PyData) (r : PyData) : Prop := ∃ (inv : List (List Int)) (p : List Int), ds = [dVs inv, dV p] ∧ (∀ c ∈ inv, Bd 400000 c ∧ c.length = p.length) ∧ Bd 400000 p ∧ p.length ≤ 1000 ∧ r = .bool (holdsB inv p)
theorem D_lholds (h : Has K mg "_law_holds" (top 56)) (d1 : Dn P w K mg base 1 "_law_dot" ["_law_first", "_law_second"] (SpD K T 2 F_ldot)) : Dn P w K mg base 2 "_law_holds" ["_law_conditions", "_law_point"] (SpD K T 2 F_lholds) := by
  have nd := sc__law_holds.nd
  obtain ⟨_, _, G__law_dot, m__law_dot, k__law_dot, b__law_dot⟩ := d1
  refine mkD (m := 1) h sc__law_holds rfl rfl (fun _ _ _ _ _ _ us hl => match us, hl with | [_, _], _ => rfl) fun f cdv A outer s H E hr => ⟨_, pss_cons (ps_for PassesOwn.never rfl (pi_list (pv 0)) (pg_name (i := 2) nd rfl (Or.inl rfl)) (pss_one (ps_if (pt_cmpR op_lt (pe_call G__law_dot (hr.mono (by decide)) (by rfl) m__law_dot k__law_dot b__law_dot .nil pass0 (pa_cons (pv 2) (pa_cons (pv 1) pa_nil))) (pe_int) (nomark _)) (pss_one (ps_ret (pe_bl))) (pss_nil)))) (pss_one (ps_ret (pe_bl))), ?_⟩
  rintro ds r ⟨inv, p, rfl, hi, hp, hl, rfl⟩ _
  refine .inl ?_
  have tst : ∀ c ∈ inv, EvT K T (tTest (tOp (rI0 fun i j => .bl (decide (i < j))) (tCall (SpD K T 2 F_ldot) [] E0 (tCons (tVar 2) (tCons (tVar 1) tNil))) (tC (.int 0)))) [.d (dVs inv), .d (dV p), .d (dV c)] (decide (FM.dot c p < 0)) := fun c hc => et_test (ev_op (ev_call (ea_cons (ev_var (i := 2) rfl) (ea_cons (ev_var (i := 1) rfl) ea_nil)) ⟨c, p, rfl, (hi c hc).1, hp, by rw [(hi c hc).2]; exact Nat.le_refl _, by rw [(hi c hc).2]; exact hl, rfl⟩ rfl) (ev_int (i := 0)) op_ltI)
  rcases first_no (fun c : List Int => decide (0 ≤ FM.dot c p)) inv with all | ⟨m, x, hm, bad, good⟩
  · have e : holdsB inv p = true := all
    rw [e]
    refine run_seq (run_forN (ei_list (ev_var (i := 0) rfl)) (fun _ => args [dVs inv, dV p] 1) rfl (fun i => by simp [args]) (fun i x hx => ?_)) (run_ret ev_bl)
    obtain ⟨c, hc, rfl⟩ := get_dVs hx
    have cm := List.mem_of_getElem? hc
    have := List.all_eq_true.mp all c cm
    exact ⟨_, .inl (run_if (tst c cm) (fun q => absurd q (by simp at this ⊢; omega)) (fun _ => run_next)), rfl⟩
  · have e : holdsB inv p = false := by
      unfold holdsB
      rw [List.all_eq_false]
      exact ⟨x, List.mem_of_getElem? hm, by rw [bad]; simp⟩
    rw [e]
    refine run_seqR (run_forR (ei_list (ev_var (i := 0) rfl)) (fun _ => args [dVs inv, dV p] 1) rfl (fun i => by simp [args]) m (x0 := dV x) (by rw [List.getElem?_map, hm]; rfl) (fun i y hy hi => ?_) ?_)
    · obtain ⟨c, hc, rfl⟩ := get_dVs hy
      have cm := List.mem_of_getElem? hc
      have := good i c hi hc
      exact ⟨_, .inl (run_if (tst c cm) (fun q => absurd q (by simp at this ⊢; omega)) (fun _ => run_next)), rfl⟩
    · exact run_if (tst x (List.mem_of_getElem? hm)) (fun _ => run_ret ev_bl) (fun q => absurd q (by simp at bad ⊢; omega))
end FD
end
section
set_option Elab.async false
set_option linter.all false
set_option maxRecDepth 100000
set_option maxHeartbeats 4000000
/-! the law's helpers: box, location -/
namespace FD
open PySem PySem.Spec PyProof.Rows L2 LamX FW FT FK
/-- draws[z % len(draws)] -/
def dr (ds : List Int) (z : Int) : Int := FM.col ds (z % (ds.length : Nat)).toNat
section
variable {K : PySem.W.Frag} {T : List (Addr × Str)} {env : En}
theorem ev_draw {te : TE} {ds : List Int} {z : Int} {i : Nat} (hi : env[i]? = some (.d (dV ds))) (h : EvE K T te env (.int z)) (hl : 0 < ds.length) :
    EvE K T (tOp (rIxL K) (tVar i) (tOp (rI (fun _ j => 0 < j) fun i j => .int (i % j)) te (tCB (fun vs H Q => ∃ p ys, vs = [.ref p] ∧ (SqL K H p ys ∨ SqT K H p ys) ∧ Q (.int ys.length) H) (tCons (tVar i) tNil)))) env (.int (dr ds z)) := by
  have e := ev_len (ev_var (K := K) (T := T) hi)
  rw [List.length_map] at e
  refine ev_op (ev_var hi) (ev_op h e (op_modI (by omega))) (op_ixL ?_)
  unfold dr
  refine get_dV2 (Int.emod_nonneg _ (by omega)) (Int.emod_lt_of_pos _ (by omega))
end
theorem dr_mem {ds : List Int} {z : Int} (hl : 0 < ds.length) : dr ds z ∈ ds := by
  have h0 := Int.emod_nonneg z (show (ds.length : Int) ≠ 0 by omega)
  have h1 := Int.emod_lt_of_pos z (show (0 : Int) < (ds.length : Int) by omega)
  unfold dr
  rw [FM.col_get (show (z % (ds.length : Int)).toNat < ds.length by omega)]
  exact List.getElem_mem _
def boxK (ds : List Int) (at_ n k : Nat) : List (List Int) :=
  unitM (n + 1) (1 + k) 1 (0 - (dr ds (at_ + k) % 4 - 1)) :: (if 0 < dr ds (at_ + k) / 4 % 5 then [unitM (n + 1) (1 + k) (0 - 1) (dr ds (at_ + k) % 4 - 1 + dr ds (at_ + k) / 20 % 3)] else [])
def boxM (ds : List Int) (at_ n : Nat) : List (List Int) := (List.range n).flatMap (boxK ds at_ n)
theorem flat_succ {α : Type} (f : Nat → List α) (i : Nat) : (List.range (i + 1)).flatMap f = (List.range i).flatMap f ++ f i := by
  rw [List.range_succ, List.flatMap_append]; simp
theorem flat_len {α : Type} {f : Nat → List α} {c : Nat} (h : ∀ i, (f i).length ≤ c) : ∀ i, ((List.range i).flatMap f).length ≤ i * c
  | 0 => by simp
  | i + 1 => by
    rw [flat_succ, List.length_append, Nat.succ_mul]
    have := flat_len h i
    have := h i
    omega
theorem range_item {n i : Nat} {lo : Nat} {x : PyData} (h : ((List.range n).map fun i => PyData.int ((lo : Int) + (i : Nat)))[i]? = some x) : i < n ∧ x = .int ((lo + i : Nat) : Int) := by
  rw [List.getElem?_map, Option.map_eq_some_iff] at h
  obtain ⟨j, hj, rfl⟩ := h
  obtain ⟨h1, h2⟩ := List.getElem?_eq_some_iff.mp hj
  rw [List.getElem_range] at h2
  rw [List.length_range] at h1
  subst h2
  exact ⟨h1, by simp⟩
theorem range_item0 {n i : Nat} {x : PyData} (h : ((List.range n).map fun i => PyData.int (i : Nat))[i]? = some x) : i < n ∧ x = .int ((i : Nat) : Int) := by
  rw [List.getElem?_map, Option.map_eq_some_iff] at h
  obtain ⟨j, hj, rfl⟩ := h
  obtain ⟨h1, h2⟩ := List.getElem?_eq_some_iff.mp hj
  rw [List.getElem_range] at h2
  rw [List.length_range] at h1
  subst h2
  exact ⟨h1, rfl⟩
variable {P : Program} {w : World} {K : PySem.W.Frag} {mg : Str → Option Value} {base : Heap} {T : List (Addr × Str)}
abbrev n__law_box : List Str := ["_law_draws", "_law_at", "_law_n", "_law_conditions", "_law_k", "_law_draw", "_law_low"]
theorem sc__law_box : FnScope n__law_box ["_law_draws", "_law_at", "_law_n"] (defScope (top 53)) := ⟨rfl, rfl, rfl, by decide +kernel, rfl, by decide +kernel, by decide +kernel⟩
def F_box (ds : List PyData) (r : PyData) : Prop := ∃ (d : List Int) (at_ n : Nat), ds = [dV d, .int (at_ : Nat), .int (n : Nat)] ∧ 0 < d.length ∧ n ≤ 100 ∧ r = dVs (boxM d at_ n)
theorem D_box (h : Has K mg "_law_box" (top 53)) (d1 : Dn P w K mg base 1 "_law_unit" ["_law_size", "_law_column", "_law_item", "_law_first"] (SpD K T 4 F_unit)) (m_range : mg "range" = none) (m_len : mg "len" = none) : Dn P w K mg base 2 "_law_box" ["_law_draws", "_law_at", "_law_n"] (SpD K T 3 F_box) := by
  have nd := sc__law_box.nd
  obtain ⟨_, _, G__law_unit, m__law_unit, k__law_unit, b__law_unit⟩ := d1
  refine mkD (m := 4) h sc__law_box rfl rfl (fun _ _ _ _ _ _ us hl => match us, hl with | [_, _, _], _ => rfl) fun f cdv A outer s H E hr => ⟨_, pss_cons (ps_set (i := 3) nd rfl (Or.inl rfl) (pe_lst pa_nil)) (pss_cons (ps_for PassesOwn.never rfl (pi_range1 (by rfl) m_range (pa_cons (pv 2) pa_nil)) (pg_name (i := 4) nd rfl (Or.inl rfl)) (pss_cons (ps_set (i := 5) nd rfl (Or.inl rfl) (pe_ix ix_list (pv 0) (pe_op op_mod (pe_op op_add (pv 1) (pv 4)) (pe_callB call_len_seq (by rfl) m_len PySem.boot_len (pa_cons (pv 0) pa_nil))) (fun _ _ => rfl))) (pss_cons (ps_set (i := 6) nd rfl (Or.inl rfl) (pe_op op_sub (pe_op op_mod (pv 5) (pe_int)) (pe_int))) (pss_cons (ps_expr (pe_bm PySem.F.plainAttrs_list PySem.F.slot_list_append PySem.F.type_list_append mt_append (pv 3) (pa_cons (pe_call G__law_unit (hr.mono (by decide)) (by rfl) m__law_unit k__law_unit b__law_unit .nil pass0 (pa_cons (pe_op op_add (pv 2) (pe_int)) (pa_cons (pe_op op_add (pe_int) (pv 4)) (pa_cons (pe_int) (pa_cons (pe_op op_sub (pe_int) (pv 6)) pa_nil))))) pa_nil))) (pss_one (ps_if (pt_cmpR op_gt (pe_op op_mod (pe_op op_fdivW (pv 5) (pe_int)) (pe_int)) (pe_int) (nomark _)) (pss_one (ps_expr (pe_bm PySem.F.plainAttrs_list PySem.F.slot_list_append PySem.F.type_list_append mt_append (pv 3) (pa_cons (pe_call G__law_unit (hr.mono (by decide)) (by rfl) m__law_unit k__law_unit b__law_unit .nil pass0 (pa_cons (pe_op op_add (pv 2) (pe_int)) (pa_cons (pe_op op_add (pe_int) (pv 4)) (pa_cons (pe_op op_sub (pe_int) (pe_int)) (pa_cons (pe_op op_add (pv 6) (pe_op op_mod (pe_op op_fdivW (pv 5) (pe_int)) (pe_int))) pa_nil))))) pa_nil)))) (pss_nil))))))) (pss_one (ps_ret (pv 3)))), ?_⟩
  rintro ds r ⟨d, at_, n, rfl, hd, hn, rfl⟩ _
  refine .inl ?_
  refine run_seq (run_setN (en_lst ea_nil (by simp)) (by simp [args])) ?_
  refine run_seq (run_forN (ei_range1 (ea_cons (ev_var (i := 2) rfl) ea_nil) (by omega) (by omega)) (fun i => [.d (dV d), .d (.int (at_ : Nat)), .d (.int (n : Nat)), .own (((List.range i).flatMap (boxK d at_ n)).map dV), .un, .un, .un]) rfl (fun i => by simp) (fun i x hx => ?_)) ?_
  · obtain ⟨hi, rfl⟩ := range_item0 hx
    rw [Int.toNat_natCast] at hi
    have fl := flat_len (f := boxK d at_ n) (c := 2) (fun k => by unfold boxK; split <;> simp) i
    rw [flat_succ]
    generalize (List.range i).flatMap (boxK d at_ n) = acc at fl ⊢
    refine (?_ : ∃ y5 y6, Run K T _ _ (.nx [.d (dV d), .d (.int (at_ : Nat)), .d (.int (n : Nat)), .own ((acc ++ boxK d at_ n i).map dV), .d (.int (i : Nat)), y5, y6])).elim fun y5 h => h.elim fun y6 h => ⟨_, .inl (run_endF 5 (run_endF 6 h)), rfl⟩
    refine ⟨.d (.int (dr d (at_ + i))), .d (.int (dr d (at_ + i) % 4 - 1)), ?_⟩
    refine run_seq (run_set (ev_draw (i := 0) rfl (ev_op (ev_var (i := 1) rfl) (ev_var (i := 4) rfl) op_add) hd) (by simp)) ?_
    unfold boxK
    generalize dr d (at_ + i) = z
    refine run_seq (run_set (ev_op (ev_op (ev_var (i := 5) rfl) (ev_int (i := 4)) (op_modI (by decide))) (ev_int (i := 1)) op_sub) (by simp)) ?_
    refine run_seq (run_app (i := 3) rfl (ev_call (ea_cons (ev_op (ev_var (i := 2) rfl) (ev_int (i := 1)) op_add) (ea_cons (ev_op (ev_int (i := 1)) (ev_var (i := 4) rfl) op_add) (ea_cons (ev_int (i := 1)) (ea_cons (ev_op (ev_int (i := 0)) (ev_var (i := 6) rfl) op_sub) ea_nil)))) ⟨n + 1, 1 + i, 1, 0 - (z % 4 - 1), rfl, by omega, by omega, rfl⟩ rfl) (by simp; omega)) ?_
    have tst : EvT K T (tTest (tOp (rI0 fun i j => .bl (decide (j < i))) (tOp (rI (fun _ j => 0 < j) fun i j => .int (i % j)) (tOp (rI CDivW fun i j => .int (i / j)) (tVar 5) (tC (.int 4))) (tC (.int 5))) (tC (.int 0)))) [.d (dV d), .d (.int (at_ : Nat)), .d (.int (n : Nat)), .own (acc.map dV ++ [dV (unitM (n + 1) (1 + i) 1 (0 - (z % 4 - 1)))]), .d (.int (i : Nat)), .d (.int z), .d (.int (z % 4 - 1))] (decide (0 < z / 4 % 5)) :=
      et_test (ev_op (ev_op (ev_op (ev_var (i := 5) rfl) (ev_int (i := 4)) (op_divS (by decide) (by decide))) (ev_int (i := 5)) (op_modI (by decide))) (ev_int (i := 0)) op_gtI)
    by_cases q : 0 < z / 4 % 5
    · rw [if_pos q]
      refine run_if tst (fun _ => run_eq (run_app (i := 3) rfl (ev_call (ea_cons (ev_op (ev_var (i := 2) rfl) (ev_int (i := 1)) op_add) (ea_cons (ev_op (ev_int (i := 1)) (ev_var (i := 4) rfl) op_add) (ea_cons (ev_op (ev_int (i := 0)) (ev_int (i := 1)) op_sub) (ea_cons (ev_op (ev_var (i := 6) rfl) (ev_op (ev_op (ev_var (i := 5) rfl) (ev_int (i := 20)) (op_divS (by decide) (by decide))) (ev_int (i := 3)) (op_modI (by decide))) op_add) ea_nil)))) ⟨n + 1, 1 + i, 0 - 1, z % 4 - 1 + z / 20 % 3, rfl, by omega, by omega, rfl⟩ rfl) (by simp; omega)) ?_) (fun z => absurd z (by simpa using q))
      simp
    · rw [if_neg q]
      refine run_if tst (fun z => absurd z (by simpa using q)) (fun _ => run_eq run_next ?_)
      simp
  · rw [List.length_map, List.length_range, Int.toNat_natCast]
    exact run_freeze (i := 3) rfl (run_ret (ev_var (i := 3) rfl))
def locK (ds : List Int) (at_ n k : Nat) : List (List Int) :=
  (if 0 < dr ds (at_ + k) % 3 then [unitM (n + 1) (1 + k) 1 (dr ds (at_ + k) / 3 % 3)] else []) ++ (if 0 < dr ds (at_ + k) / 9 % 3 then [unitM (n + 1) (1 + k) (0 - 1) (2 + dr ds (at_ + k) / 27 % 5)] else [])
def rateM (z : Int) (n fixed : Nat) : Nat → List Int
  | 0 => 1 :: List.replicate n 0
  | i + 1 => (rateM z n fixed i).set (1 + (fixed + i)) (z / (5 * ((fixed + i : Nat) : Int) + 1) % 5 - 2)
theorem rateM_len (z : Int) (n fixed : Nat) : ∀ i, (rateM z n fixed i).length = n + 1
  | 0 => by simp [rateM]
  | i + 1 => by unfold rateM; rw [List.length_set]; exact rateM_len z n fixed i
def rateK (ds : List Int) (at_ n fixed k : Nat) : List Int := rateM (dr ds (at_ + 4 + k)) n fixed (n - fixed)
def locM (ds : List Int) (at_ n fixed : Nat) : Loc := ((List.range (n - fixed)).flatMap fun i => locK ds at_ n (fixed + i), (List.range (1 + dr ds (at_ + 3) % 2).toNat).map (rateK ds at_ n fixed))
abbrev n__law_location : List Str := ["_law_draws", "_law_at", "_law_n", "_law_fixed", "_law_invariant", "_law_rates", "_law_k", "_law_draw", "_law_rate", "_law_j"]
theorem sc__law_location : FnScope n__law_location ["_law_draws", "_law_at", "_law_n", "_law_fixed"] (defScope (top 50)) := ⟨rfl, rfl, rfl, by decide +kernel, rfl, by decide +kernel, by decide +kernel⟩
def F_location (ds : List PyData) (r : PyData) : Prop := ∃ (d : List Int) (at_ n fixed : Nat), ds = [dV d, .int (at_ : Nat), .int (n : Nat), .int (fixed : Nat)] ∧ 0 < d.length ∧ (∀ x ∈ d, 0 ≤ x) ∧ n ≤ 100 ∧ fixed ≤ n ∧ r = dLoc (locM d at_ n fixed)
theorem D_location (h : Has K mg "_law_location" (top 50)) (d1 : Dn P w K mg base 1 "_law_unit" ["_law_size", "_law_column", "_law_item", "_law_first"] (SpD K T 4 F_unit)) (m_range : mg "range" = none) (m_len : mg "len" = none) : Dn P w K mg base 2 "_law_location" ["_law_draws", "_law_at", "_law_n", "_law_fixed"] (SpD K T 4 F_location) := by
  have nd := sc__law_location.nd
  obtain ⟨_, _, G__law_unit, m__law_unit, k__law_unit, b__law_unit⟩ := d1
  refine mkD (m := 6) h sc__law_location rfl rfl (fun _ _ _ _ _ _ us hl => match us, hl with | [_, _, _, _], _ => rfl) fun f cdv A outer s H E hr => ⟨_, pss_cons (ps_set (i := 4) nd rfl (Or.inl rfl) (pe_lst pa_nil)) (pss_cons (ps_set (i := 5) nd rfl (Or.inl rfl) (pe_lst pa_nil)) (pss_cons (ps_for PassesOwn.never rfl (pi_range2 (by rfl) m_range (pa_cons (pv 3) (pa_cons (pv 2) pa_nil))) (pg_name (i := 6) nd rfl (Or.inl rfl)) (pss_cons (ps_set (i := 7) nd rfl (Or.inl rfl) (pe_ix ix_list (pv 0) (pe_op op_mod (pe_op op_add (pv 1) (pv 6)) (pe_callB call_len_seq (by rfl) m_len PySem.boot_len (pa_cons (pv 0) pa_nil))) (fun _ _ => rfl))) (pss_cons (ps_if (pt_cmpR op_gt (pe_op op_mod (pv 7) (pe_int)) (pe_int) (nomark _)) (pss_one (ps_expr (pe_bm PySem.F.plainAttrs_list PySem.F.slot_list_append PySem.F.type_list_append mt_append (pv 4) (pa_cons (pe_call G__law_unit (hr.mono (by decide)) (by rfl) m__law_unit k__law_unit b__law_unit .nil pass0 (pa_cons (pe_op op_add (pv 2) (pe_int)) (pa_cons (pe_op op_add (pe_int) (pv 6)) (pa_cons (pe_int) (pa_cons (pe_op op_mod (pe_op op_fdivW (pv 7) (pe_int)) (pe_int)) pa_nil))))) pa_nil)))) (pss_nil)) (pss_one (ps_if (pt_cmpR op_gt (pe_op op_mod (pe_op op_fdivW (pv 7) (pe_int)) (pe_int)) (pe_int) (nomark _)) (pss_one (ps_expr (pe_bm PySem.F.plainAttrs_list PySem.F.slot_list_append PySem.F.type_list_append mt_append (pv 4) (pa_cons (pe_call G__law_unit (hr.mono (by decide)) (by rfl) m__law_unit k__law_unit b__law_unit .nil pass0 (pa_cons (pe_op op_add (pv 2) (pe_int)) (pa_cons (pe_op op_add (pe_int) (pv 6)) (pa_cons (pe_op op_sub (pe_int) (pe_int)) (pa_cons (pe_op op_add (pe_int) (pe_op op_mod (pe_op op_fdivW (pv 7) (pe_int)) (pe_int))) pa_nil))))) pa_nil)))) (pss_nil)))))) (pss_cons (ps_for PassesOwn.never rfl (pi_range1 (by rfl) m_range (pa_cons (pe_op op_add (pe_int) (pe_op op_mod (pe_ix ix_list (pv 0) (pe_op op_mod (pe_op op_add (pv 1) (pe_int)) (pe_callB call_len_seq (by rfl) m_len PySem.boot_len (pa_cons (pv 0) pa_nil))) (fun _ _ => rfl)) (pe_int))) pa_nil)) (pg_name (i := 6) nd rfl (Or.inl rfl)) (pss_cons (ps_set (i := 7) nd rfl (Or.inl rfl) (pe_ix ix_list (pv 0) (pe_op op_mod (pe_op op_add (pe_op op_add (pv 1) (pe_int)) (pv 6)) (pe_callB call_len_seq (by rfl) m_len PySem.boot_len (pa_cons (pv 0) pa_nil))) (fun _ _ => rfl))) (pss_cons (ps_set (i := 8) nd rfl (Or.inl rfl) (pe_op op_cat (pe_lst (pa_cons (pe_int) pa_nil)) (pe_op op_rep (pe_lst (pa_cons (pe_int) pa_nil)) (pv 2)))) (pss_cons (ps_for PassesOwn.never rfl (pi_range2 (by rfl) m_range (pa_cons (pv 3) (pa_cons (pv 2) pa_nil))) (pg_name (i := 9) nd rfl (Or.inl rfl)) (pss_one (ps_asg (pe_op op_sub (pe_op op_mod (pe_op op_fdivW (pv 7) (pe_op op_add (pe_op op_mulW (pe_int) (pv 9)) (pe_int))) (pe_int)) (pe_int)) (pg_sub (pv 8) (pe_op op_add (pe_int) (pv 9)) set_list)))) (pss_one (ps_expr (pe_bm PySem.F.plainAttrs_list PySem.F.slot_list_append PySem.F.type_list_append mt_append (pv 5) (pa_cons (pv 8) pa_nil)))))))) (pss_one (ps_ret (pe_tup (pa_cons (pv 4) (pa_cons (pv 5) pa_nil)))))))), ?_⟩
  rintro ds r ⟨d, at_, n, fixed, rfl, hd, hpos, hn, hf, rfl⟩ _
  refine .inl ?_
  refine run_seq (run_setN (en_lst ea_nil (by simp)) (by simp [args])) ?_
  refine run_seq (run_setN (en_lst ea_nil (by simp)) (by simp [args])) ?_
  have rng : ∀ (env : En), env[3]? = some (.d (.int (fixed : Nat))) → env[2]? = some (.d (.int (n : Nat))) → EvI K T (iRng2 (tCons (tVar 3) (tCons (tVar 2) tNil))) env ((List.range ((n : Int) - (fixed : Int)).toNat).map fun i => .int ((fixed : Int) + (i : Nat))) := fun env h3 h2 => ei_range2 (ea_cons (ev_var h3) (ea_cons (ev_var h2) ea_nil)) (by omega) (by omega) (by omega)
  have enf : ((n : Int) - (fixed : Int)).toNat = n - fixed := by omega
  refine run_seq (run_forN (rng _ rfl rfl) (fun i => [.d (dV d), .d (.int (at_ : Nat)), .d (.int (n : Nat)), .d (.int (fixed : Nat)), .own (((List.range i).flatMap fun i => locK d at_ n (fixed + i)).map dV), .own [], .un, .un, .un, .un]) rfl (fun i => by simp) (fun i x hx => ?_)) ?_
  · obtain ⟨hi, rfl⟩ := range_item hx
    rw [enf] at hi
    have fl := flat_len (f := fun i => locK d at_ n (fixed + i)) (c := 2) (fun k => by unfold locK; split <;> split <;> simp) i
    rw [flat_succ]
    generalize ((List.range i).flatMap fun i => locK d at_ n (fixed + i)) = acc at fl ⊢
    generalize hk : fixed + i = k
    refine (?_ : ∃ y7, Run K T _ _ (.nx [.d (dV d), .d (.int (at_ : Nat)), .d (.int (n : Nat)), .d (.int (fixed : Nat)), .own ((acc ++ locK d at_ n k).map dV), .own [], .d (.int (k : Nat)), y7, .un, .un])).elim fun y7 h => ⟨_, .inl (run_endF 7 h), rfl⟩
    refine ⟨.d (.int (dr d (at_ + k))), ?_⟩
    refine run_seq (run_set (ev_draw (i := 0) rfl (ev_op (ev_var (i := 1) rfl) (ev_var (i := 6) rfl) op_add) hd) (by simp)) ?_
    unfold locK
    generalize dr d (at_ + k) = z
    have first : Run K T (tIfS (tTest (tOp (rI0 fun i j => .bl (decide (j < i))) (tOp (rI (fun _ j => 0 < j) fun i j => .int (i % j)) (tVar 7) (tC (.int 3))) (tC (.int 0)))) (tDrop (tBM K "list" rAppend (tVar 4) (tCons (tCall (SpD K T 4 F_unit) [] E0 (tCons (tOp (rI0 fun i j => .int (i + j)) (tVar 2) (tC (.int 1))) (tCons (tOp (rI0 fun i j => .int (i + j)) (tC (.int 1)) (tVar 6)) (tCons (tC (.int 1)) (tCons (tOp (rI (fun _ j => 0 < j) fun i j => .int (i % j)) (tOp (rI CDivW fun i j => .int (i / j)) (tVar 7) (tC (.int 3))) (tC (.int 3))) tNil))))) tNil))) tNext)
        [.d (dV d), .d (.int (at_ : Nat)), .d (.int (n : Nat)), .d (.int (fixed : Nat)), .own (acc.map dV), .own [], .d (.int (k : Nat)), .d (.int z), .un, .un]
        (.nx [.d (dV d), .d (.int (at_ : Nat)), .d (.int (n : Nat)), .d (.int (fixed : Nat)), .own ((acc ++ (if 0 < z % 3 then [unitM (n + 1) (1 + k) 1 (z / 3 % 3)] else [])).map dV), .own [], .d (.int (k : Nat)), .d (.int z), .un, .un]) := by
      have tst := et_test (T := T) (K := K) (ev_op (env := [.d (dV d), .d (.int (at_ : Nat)), .d (.int (n : Nat)), .d (.int (fixed : Nat)), .own (acc.map dV), .own [], .d (.int (k : Nat)), .d (.int z), .un, .un]) (ev_op (ev_var (i := 7) rfl) (ev_int (i := 3)) (op_modI (by decide))) (ev_int (i := 0)) op_gtI)
      by_cases q : 0 < z % 3
      · rw [if_pos q]
        refine run_if tst (fun _ => run_eq (run_app (i := 4) rfl (ev_call (ea_cons (ev_op (ev_var (i := 2) rfl) (ev_int (i := 1)) op_add) (ea_cons (ev_op (ev_int (i := 1)) (ev_var (i := 6) rfl) op_add) (ea_cons (ev_int (i := 1)) (ea_cons (ev_op (ev_op (ev_var (i := 7) rfl) (ev_int (i := 3)) (op_divS (by decide) (by decide))) (ev_int (i := 3)) (op_modI (by decide))) ea_nil)))) ⟨n + 1, 1 + k, 1, z / 3 % 3, rfl, by omega, by omega, rfl⟩ rfl) (by simp; omega)) ?_) (fun z => absurd z (by simpa using q))
        simp
      · rw [if_neg q]
        refine run_if tst (fun z => absurd z (by simpa using q)) (fun _ => run_eq run_next ?_)
        simp
    refine run_seq first ?_
    have al : (acc ++ (if 0 < z % 3 then [unitM (n + 1) (1 + k) 1 (z / 3 % 3)] else [])).length ≤ acc.length + 1 := by rw [List.length_append]; split <;> simp
    rw [← List.append_assoc]
    generalize acc ++ (if 0 < z % 3 then [unitM (n + 1) (1 + k) 1 (z / 3 % 3)] else []) = acc2 at al ⊢
    have tst := et_test (T := T) (K := K) (ev_op (env := [.d (dV d), .d (.int (at_ : Nat)), .d (.int (n : Nat)), .d (.int (fixed : Nat)), .own (acc2.map dV), .own [], .d (.int (k : Nat)), .d (.int z), .un, .un]) (ev_op (ev_op (ev_var (i := 7) rfl) (ev_int (i := 9)) (op_divS (by decide) (by decide))) (ev_int (i := 3)) (op_modI (by decide))) (ev_int (i := 0)) op_gtI)
    by_cases q : 0 < z / 9 % 3
    · rw [if_pos q]
      refine run_if tst (fun _ => run_eq (run_app (i := 4) rfl (ev_call (ea_cons (ev_op (ev_var (i := 2) rfl) (ev_int (i := 1)) op_add) (ea_cons (ev_op (ev_int (i := 1)) (ev_var (i := 6) rfl) op_add) (ea_cons (ev_op (ev_int (i := 0)) (ev_int (i := 1)) op_sub) (ea_cons (ev_op (ev_int (i := 2)) (ev_op (ev_op (ev_var (i := 7) rfl) (ev_int (i := 27)) (op_divS (by decide) (by decide))) (ev_int (i := 5)) (op_modI (by decide))) op_add) ea_nil)))) ⟨n + 1, 1 + k, 0 - 1, 2 + z / 27 % 5, rfl, by omega, by omega, rfl⟩ rfl) (by simp; omega)) ?_) (fun z => absurd z (by simpa using q))
      simp
    · rw [if_neg q]
      refine run_if tst (fun z => absurd z (by simpa using q)) (fun _ => run_eq run_next ?_)
      simp
  rw [List.length_map, List.length_range, enf]
  have z3 := hpos _ (dr_mem (ds := d) (z := at_ + 3) hd)
  unfold locM dLoc
  simp only
  have invl := flat_len (f := fun i => locK d at_ n (fixed + i)) (c := 2) (fun k => by unfold locK; split <;> split <;> simp) (n - fixed)
  generalize ((List.range (n - fixed)).flatMap fun i => locK d at_ n (fixed + i)) = inv at invl ⊢
  refine run_seq (run_forN (ei_range1 (n := 1 + dr d (at_ + 3) % 2) (ea_cons (ev_op (ev_int (i := 1)) (ev_op (ev_draw (i := 0) rfl (ev_op (ev_var (i := 1) rfl) (ev_int (i := 3)) op_add) hd) (ev_int (i := 2)) (op_modI (by decide))) op_add) ea_nil) (by omega) (by omega)) (fun i => [.d (dV d), .d (.int (at_ : Nat)), .d (.int (n : Nat)), .d (.int (fixed : Nat)), .own (inv.map dV), .own (((List.range i).map (rateK d at_ n fixed)).map dV), .un, .un, .un, .un]) rfl (fun i => by simp) (fun i x hx => ?_)) ?_
  · obtain ⟨hi, rfl⟩ := range_item0 hx
    have hi2 : i < 2 := by omega
    have e1 : (List.range (i + 1)).map (rateK d at_ n fixed) = (List.range i).map (rateK d at_ n fixed) ++ [rateK d at_ n fixed i] := by rw [List.range_succ, List.map_append]; rfl
    have al : ((List.range i).map (rateK d at_ n fixed)).length = i := by simp
    rw [e1]
    generalize (List.range i).map (rateK d at_ n fixed) = acc at al ⊢
    refine (?_ : ∃ y7 y8 y9, Run K T _ _ (.nx [.d (dV d), .d (.int (at_ : Nat)), .d (.int (n : Nat)), .d (.int (fixed : Nat)), .own (inv.map dV), .own ((acc ++ [rateK d at_ n fixed i]).map dV), .d (.int (i : Nat)), y7, y8, y9])).elim fun y7 h => h.elim fun y8 h => h.elim fun y9 h => ⟨_, .inl (run_endF 7 (run_endF 8 (run_endF 9 h))), rfl⟩
    unfold rateK
    refine ⟨.d (.int (dr d (at_ + 4 + i))), .d (dV (rateM (dr d (at_ + 4 + i)) n fixed (n - fixed))), .un, ?_⟩
    refine run_seq (run_set (ev_draw (i := 0) rfl (ev_op (ev_op (ev_var (i := 1) rfl) (ev_int (i := 4)) op_add) (ev_var (i := 6) rfl) op_add) hd) (by simp)) ?_
    generalize dr d (at_ + 4 + i) = z
    refine run_seq (run_setN (en_cat (en_lst (ea_cons (ev_int (i := 1)) ea_nil) (by simp)).e (en_rep (n := n) (en_lst (ea_cons (ev_int (i := 0)) ea_nil) (by simp)).e (ev_var (i := 2) rfl) (by omega)).e (by simp; omega)) (by simp)) ?_
    have e0 : [PyData.int 1] ++ List.replicate n (PyData.int 0) = (rateM z n fixed 0).map PyData.int := by simp [rateM]
    rw [e0]
    refine run_seq (run_forN (rng _ rfl rfl) (fun j => [.d (dV d), .d (.int (at_ : Nat)), .d (.int (n : Nat)), .d (.int (fixed : Nat)), .own (inv.map dV), .own (acc.map dV), .d (.int (i : Nat)), .d (.int z), .own ((rateM z n fixed j).map PyData.int), .un]) rfl (fun i => by simp) (fun j x hx => ?_)) ?_
    · obtain ⟨hj, rfl⟩ := range_item hx
      rw [enf] at hj
      have rl := rateM_len z n fixed j
      refine ⟨_, .inl (run_setItem (i := 8) (k := 1 + (fixed + j)) (xs := (rateM z n fixed j).map PyData.int) rfl (ev_op (ev_op (ev_op (ev_var (i := 7) rfl) (ev_op (ev_op (ev_int (i := 5)) (ev_var (i := 9) rfl) (op_mulS (by decide) (Nat.lt_of_lt_of_le (show _ < 10000 by omega) (by decide)))) (ev_int (i := 1)) op_add) (op_divS (by omega) (Nat.lt_of_lt_of_le (show _ < 10000 by omega) (by decide)))) (ev_int (i := 5)) (op_modI (by decide))) (ev_int (i := 2)) op_sub) (ev_eq (ev_op (ev_int (i := 1)) (ev_var (i := 9) rfl) op_add) (by simp)) (by simp; omega)), ?_⟩
      rw [← List.map_set]
      rfl
    · rw [List.length_map, List.length_range, enf]
      refine run_freeze (i := 8) rfl ?_
      refine run_eq (run_app (i := 5) rfl (ev_var (i := 8) rfl) (by simp; omega)) ?_
      simp [dV]
  · rw [List.length_map, List.length_range]
    refine run_freeze (i := 4) rfl (run_freeze (i := 5) rfl ?_)
    exact run_ret (ev_tup (ea_cons (ev_var (i := 4) rfl) (ea_cons (ev_var (i := 5) rfl) ea_nil)) (by simp))
end FD
end
section
set_option Elab.async false
set_option linter.all false
set_option maxRecDepth 100000
set_option maxHeartbeats 4000000
/-! the law's helpers: lists handed out, jump -/
namespace FW
open PySem PySem.Spec PyProof.Rows L2 LamX
section
variable {K : PySem.W.Frag} {T : List (Addr × Str)} {env env' : En} {t u : TS} {xs ys : List PyData} {i n : Nat} {ds : List PyData}
/-- a body that hands out a list of its own -/
def RunN (K : PySem.W.Frag) (T : List (Addr × Str)) (t : TS) (env : En) (xs : List PyData) : Prop := ∀ Mu Av0 H0 Av σ H D, Sta K T Mu Av0 H0 Av env σ H →
  (∀ l vs H', Fresh H0 l → ¬ Av0 l → (∀ b o, H0 b = some o → (∀ ps, o ≠ .tbl ps) → ¬ Mu b → H' b = some o) → Tabs T H' → H' l = some (.lst vs) → DAll K (fun a => Av0 a ∨ a = l) H' vs xs → D.rt (.ref l) H') → t D σ H
theorem rn_seq (h1 : Run K T t env (.nx env')) (h2 : RunN K T u env' xs) : RunN K T (tSeq t u) env xs := fun Mu Av0 H0 Av σ H D S q => h1 _ _ _ _ _ _ _ S fun Av' σ' H' S' p => h2 _ _ _ _ _ _ _ S' q
theorem rn_ret (hi : env[i]? = some (.own xs)) : RunN K T (tRet (tVar i)) env xs := fun Mu Av0 H0 Av σ H D S q => by
  obtain ⟨l, vs, q1, q2, q3, q4, q5, q6⟩ := S.own i xs hi
  exact ⟨.ref l, q1, q l vs H q6 q5 S.gw S.tb q2 (q3.weak fun a z => z.elim (S.sub a) fun z => z ▸ q4)⟩
def SpN (K : PySem.W.Frag) (T : List (Addr × Str)) (n : Nat) (F : List PyData → List PyData → Prop) : Sp := fun vs H Q _ => ∃ (Av : Avs) (ds xs : List PyData), F ds xs ∧ vs.length = n ∧ Tabs T H ∧ (∀ a, Av a → ∃ o, H a = some o ∧ ∀ ps, o ≠ .tbl ps) ∧ DAll K Av H vs ds ∧
  ∀ l us H', Fresh H l → ¬ Av l → ExtN H H' → Tabs T H' → H' l = some (.lst us) → DAll K (fun a => Av a ∨ a = l) H' us xs → Q (.ref l) H'
theorem en_callN {F : List PyData → List PyData → Prop} {E : XK} {ta : TA} (h : EvA K T ta env ds) (hF : F ds xs) (hn : ds.length = n) : EvN K T (tCall (SpN K T n F) [] E ta) env xs := fun Mu Av0 H0 Av σ H S Q q =>
  h _ _ _ _ _ _ S _ fun vs H1 e1 t1 d1 => ⟨Av, ds, xs, hF, by rw [List.append_nil, d1.length]; exact hn, t1, (S.grow e1 t1).av, by rw [List.append_nil]; exact d1, fun l us H2 f nl e2 t2 h2 r2 => q l us H2 (f.back e1) nl (e1.trans e2) t2 h2 r2⟩
theorem run_defN {N : List Str} {m : Nat} {F : List PyData → List PyData → Prop} (hN : N.length = n + m) (h : ∀ ds xs, F ds xs → ds.length = n → RunN K T t (args ds m) xs) {vs : List V} {Q : VK} {E : XK} {H : Hp} (hs : SpN K T n F vs H Q E) :
    t { nx := fun _ H' => Q .non H', rt := Q } (L2.start N vs) H := by
  obtain ⟨Av, ds, xs, hF, hl, ht, hav, hd, k⟩ := hs
  have S := sta_start (N := N) (n := m) hd ht hav (by omega)
  exact h ds xs hF (by rw [← hd.length]; exact hl) _ _ _ _ _ _ _ S fun l us H' f nl g t2 h2 r2 => k l us H' f nl (fun b o z n => g b o z n id) t2 h2 r2
/-- own + list -/
theorem en_catOwn {tb : TE} (hi : env[i]? = some (.own xs)) (h : EvE K T tb env (.list ys)) (hz : xs.length + ys.length ≤ 100000) : EvN K T (tOp rCat (tVar i) tb) env (xs ++ ys) := fun Mu Av0 H0 Av σ H S Q q => by
  obtain ⟨l, vs, q1, q2, q3, q4, q5, q6⟩ := S.own i xs hi
  refine ⟨.ref l, q1, h _ _ _ _ _ _ S _ fun u H2 e2 t2 d2 => ?_⟩
  cases d2 with
  | lst h2 n2 r2 =>
    refine ⟨_, _, _, _, rfl, rfl, ext_lst e2 q2, h2, by rw [q3.length, r2.length]; exact Nat.le_trans hz (by decide), fun p hp => ?_⟩
    exact q p _ _ ((Fresh.of hp).back e2) (not_av (S.grow e2 t2).av hp) (e2.trans (new_of hp)) (tabs_new t2 hp) upd_same ((((q3.ext e2).append r2).more (Fresh.of hp) fun _ z => z).ext (new_of hp))
/-- the promise of a def that hands out a list of two lists of ints, the first its own -/
def SpS (K : PySem.W.Frag) (T : List (Addr × Str)) (n : Nat) (F : List PyData → List Int → List Int → Prop) : Sp := fun vs H Q _ => ∃ (Av : Avs) (ds : List PyData) (u v : List Int), F ds u v ∧ vs.length = n ∧ Tabs T H ∧ (∀ a, Av a → ∃ o, H a = some o ∧ ∀ ps, o ≠ .tbl ps) ∧ DAll K Av H vs ds ∧
  ∀ l l0 l1 H', Fresh H l → Fresh H l0 → ¬ Av l → ¬ Av l0 → ¬ Av l1 → l0 ≠ l → l0 ≠ l1 → ExtN H H' → Tabs T H' → H' l = some (.lst [.ref l0, .ref l1]) → H' l0 = some (.lst (u.map V.int)) → H' l1 = some (.lst (v.map V.int)) → Q (.ref l) H'
theorem da_ints {Av : Avs} {H : Hp} {l : Addr} {u : List Int} (h : H l = some (.lst (u.map V.int))) (n : ¬ Av l) : DA K Av H (.ref l) (dV u) := .lst h n DAll.ints
theorem ev_callS {F : List PyData → List Int → List Int → Prop} {E : XK} {ta : TA} {u v : List Int} (h : EvA K T ta env ds) (hF : F ds u v) (hn : ds.length = n) : EvE K T (tCall (SpS K T n F) [] E ta) env (dVs [u, v]) := fun Mu Av0 H0 Av σ H S Q q =>
  h _ _ _ _ _ _ S _ fun vs H1 e1 t1 d1 => ⟨Av, ds, u, v, hF, by rw [List.append_nil, d1.length]; exact hn, t1, (S.grow e1 t1).av, by rw [List.append_nil]; exact d1, fun l l0 l1 H2 f f0 nl n0 n1 _ _ e2 t2 h2 h0 h1 => q _ H2 (e1.trans e2) t2 (.lst h2 nl (.cons (da_ints h0 n0) (.cons (da_ints h1 n1) .nil)))⟩
theorem en_callS0 {F : List PyData → List Int → List Int → Prop} {E : XK} {ta : TA} {u v : List Int} (h : EvA K T ta env ds) (hF : F ds u v) (hn : ds.length = n) : EvN K T (tOp (rIxL K) (tCall (SpS K T n F) [] E ta) (tC (.int 0))) env (u.map PyData.int) := fun Mu Av0 H0 Av σ H S Q q =>
  h _ _ _ _ _ _ S _ fun vs H1 e1 t1 d1 => ⟨Av, ds, u, v, hF, by rw [List.append_nil, d1.length]; exact hn, t1, (S.grow e1 t1).av, by rw [List.append_nil]; exact d1, fun l l0 l1 H2 f f0 nl n0 n1 _ _ e2 t2 h2 h0 h1 => ⟨l, _, 0, .ref l0, rfl, rfl, SqL.of h2, at_nat (i := 0) rfl, q l0 _ H2 (f0.back e1) n0 (e1.trans e2) t2 h0 DAll.ints⟩⟩
def RunS (K : PySem.W.Frag) (T : List (Addr × Str)) (t : TS) (env : En) (u v : List Int) : Prop := ∀ Mu Av0 H0 Av σ H D, Sta K T Mu Av0 H0 Av env σ H →
  (∀ l l0 l1 H', Fresh H0 l → Fresh H0 l0 → ¬ Av0 l → ¬ Av0 l0 → ¬ Av0 l1 → l0 ≠ l → l0 ≠ l1 → (∀ b o, H0 b = some o → (∀ ps, o ≠ .tbl ps) → ¬ Mu b → H' b = some o) → Tabs T H' → H' l = some (.lst [.ref l0, .ref l1]) → H' l0 = some (.lst (u.map V.int)) → H' l1 = some (.lst (v.map V.int)) → D.rt (.ref l) H') → t D σ H
theorem rs_seq {u v : List Int} {t2 : TS} (h1 : Run K T t env (.nx env')) (h2 : RunS K T t2 env' u v) : RunS K T (tSeq t t2) env u v := fun Mu Av0 H0 Av σ H D S q => h1 _ _ _ _ _ _ _ S fun Av' σ' H' S' p => h2 _ _ _ _ _ _ _ S' q
theorem rs_ret {te : TE} {u v : List Int} (hi : env[i]? = some (.own (u.map .int))) (h : EvN K T te (env.set i (.d (dV u))) (v.map .int)) : RunS K T (tRet (tLst (tCons (tVar i) (tCons te tNil)))) env u v := fun Mu Av0 H0 Av σ H D S q => by
  obtain ⟨l0, vs, q1, q2, q3, q4, q5, q6⟩ := S.own i _ hi
  have e3 := q3.ints_eq
  subst e3
  obtain ⟨Av', S', p⟩ := S.freeze hi
  refine ⟨.ref l0, q1, h _ _ _ _ _ _ S' _ fun l1 vs1 H1 f1 n1 e1 t1 h1 r1 => ?_⟩
  have e4 := r1.ints_eq
  subst e4
  refine ⟨(show 2 ≤ sizeLine by decide), fun l hl => ?_⟩
  have S1 := S'.grow e1 t1
  have hl0 : H1 l0 = some (.lst (u.map V.int)) := ext_lst e1 q2
  have ne0 : l0 ≠ l := fun z => by rw [← z, hl0] at hl; cases hl
  have ne1 : l1 ≠ l := fun z => by rw [← z, h1] at hl; cases hl
  have ne01 : l0 ≠ l1 := fun z => by
    obtain ⟨ps, z2⟩ := f1 _ (z ▸ q2)
    cases z2
  refine q l l0 l1 _ ?_ q6 ?_ q5 ?_ ne0 ne01 (fun b o z n m => new_of hl b o (S1.gw b o z n m) n) (tabs_new t1 hl) upd_same (by rw [upd_ne ne0]; exact hl0) (by rw [upd_ne ne1]; exact h1)
  · refine fun o z => Classical.byContradiction fun no => ?_
    by_cases hm : Mu l
    · obtain ⟨C2, dx2, fs2, z2⟩ := S1.mu l hm
      rw [hl] at z2; cases z2
    · have := S1.gw l o z (fun ps z => no ⟨ps, z⟩) hm
      rw [hl] at this; cases this
  · exact fun z => not_av S1.av hl (S1.sub _ z)
  · exact fun z => n1 (S'.sub _ z)
end
end FW
namespace FD
open PySem PySem.Spec PyProof.Rows L2 LamX FW FT FK
variable {P : Program} {w : World} {K : PySem.W.Frag} {mg : Str → Option Value} {base : Heap} {T : List (Addr × Str)}
theorem mkN {x : Str} {st : Stmt} {N ps : List Str} {k n m : Nat} {F : List PyData → List PyData → Prop} (h : Has K mg x st) (S : FnScope N ps (defScope st)) (hp : ps.length = n) (hN : N.length = n + m)
    (bind : ∀ (kV doc pm : Value) (an : Option Addr) (cdv ct : Value) (us : List Value), us.length = ps.length → bindArgs (PySem.W.fnOf x x (defArgs st) (defBody st) (defScope st) .none kV doc pm an cdv ct) ⟨us, []⟩ = pure (ps.zip us))
    (body : ∀ (f : Addr) (cdv : Value) (A : Around) (outer : List Env) (s : Shared) (H : Hp) (E : XK), Room k (A.deeper (envOfC x (defScope st) s.heap.objs.size f cdv)) →
      ∃ t, PSs (cxOf CX0 P w K mg base N x (defScope st) f cdv A outer s H E).nox (defBody st) t ∧ ∀ ds xs, F ds xs → ds.length = n → RunN K T t (args ds m) xs) :
    Dn P w K mg base (k + 1) x ps (SpN K T n F) := by
  obtain ⟨f, fd, Fd, hm⟩ := h
  refine ⟨f, fd, Fd.ok S (fun vs H Q E h => ?_) (fun cdv A outer s H vs Q E hr h => ?_), hm, Fd.kp, Fd.bindsN bind⟩
  · obtain ⟨_, _, _, _, hl, _⟩ := h
    exact hl.trans hp.symm
  · obtain ⟨t, ht, hrun⟩ := body f cdv A outer s H E hr
    exact ⟨t, ht.nox, run_defN hN hrun h⟩
theorem mkS {x : Str} {st : Stmt} {N ps : List Str} {k n m : Nat} {F : List PyData → List Int → List Int → Prop} (h : Has K mg x st) (S : FnScope N ps (defScope st)) (hp : ps.length = n) (hN : N.length = n + m)
    (bind : ∀ (kV doc pm : Value) (an : Option Addr) (cdv ct : Value) (us : List Value), us.length = ps.length → bindArgs (PySem.W.fnOf x x (defArgs st) (defBody st) (defScope st) .none kV doc pm an cdv ct) ⟨us, []⟩ = pure (ps.zip us))
    (body : ∀ (f : Addr) (cdv : Value) (A : Around) (outer : List Env) (s : Shared) (H : Hp) (E : XK), Room k (A.deeper (envOfC x (defScope st) s.heap.objs.size f cdv)) →
      ∃ t, PSs (cxOf CX0 P w K mg base N x (defScope st) f cdv A outer s H E).nox (defBody st) t ∧ ∀ ds u v, F ds u v → ds.length = n → RunS K T t (args ds m) u v) :
    Dn P w K mg base (k + 1) x ps (SpS K T n F) := by
  obtain ⟨f, fd, Fd, hm⟩ := h
  refine ⟨f, fd, Fd.ok S (fun vs H Q E h => ?_) (fun cdv A outer s H vs Q E hr h => ?_), hm, Fd.kp, Fd.bindsN bind⟩
  · obtain ⟨_, _, _, _, _, hl, _⟩ := h
    exact hl.trans hp.symm
  · obtain ⟨t, ht, hrun⟩ := body f cdv A outer s H E hr
    refine ⟨t, ht.nox, ?_⟩
    obtain ⟨Av, ds, u, v, hF, hl, htb, hav, hd, q⟩ := h
    have S := sta_start (N := N) (n := m) hd htb hav (by omega)
    exact hrun ds u v hF (by rw [← hd.length]; exact hl) _ _ _ _ _ _ _ S fun l l0 l1 H' f f0 nl n0 n1 e0 e1 g t2 h2 h0 h1 => q l l0 l1 H' f f0 nl n0 n1 e0 e1 (fun b o z n => g b o z n id) t2 h2 h0 h1

def F_unitN (ds xs : List PyData) : Prop := ∃ (size col : Nat) (item first : Int), ds = [.int (size : Nat), .int (col : Nat), .int item, .int first] ∧ col < size ∧ size ≤ 1000 ∧ xs = (unitM size col item first).map .int
theorem D_unitN (h : Has K mg "_law_unit" (top 49)) : Dn P w K mg base 1 "_law_unit" ["_law_size", "_law_column", "_law_item", "_law_first"] (SpN K T 4 F_unitN) := by
  have nd := sc__law_unit.nd
  refine mkN (m := 1) h sc__law_unit rfl rfl (fun _ _ _ _ _ _ us hl => match us, hl with | [_, _, _, _], _ => rfl) fun f cdv A outer s H E hr => ⟨_, pss_cons (ps_set (i := 4) nd rfl (Or.inl rfl) (pe_op op_rep (pe_lst (pa_cons (pe_int) pa_nil)) (pv 0))) (pss_cons (ps_asg (pv 2) (pg_sub (pv 4) (pv 1) set_list)) (pss_cons (ps_asg (pe_op op_add (pe_ix ix_list (pv 4) (pe_int) (fun _ _ => rfl)) (pv 3)) (pg_sub (pv 4) (pe_int) set_list)) (pss_one (ps_ret (pv 4))))), ?_⟩
  rintro ds xs ⟨size, col, item, first, rfl, hc, hs, rfl⟩ _
  have e0 : List.replicate size (PyData.int 0) = (List.replicate size (0 : Int)).map PyData.int := by simp
  refine rn_seq (run_setN (en_rep (en_lst (ea_cons (ev_int (i := 0)) ea_nil) (by simp)).e (ev_var (i := 0) rfl) hs) (by simp [args])) ?_
  rw [e0]
  refine rn_seq (run_setItem (i := 4) (k := col) rfl (ev_var (i := 2) rfl) (ev_var (i := 1) rfl) (by simp; exact hc)) ?_
  rw [← List.map_set]
  refine rn_seq (run_setItem (i := 4) (k := 0) (x := .int (FM.col ((List.replicate size (0 : Int)).set col item) 0 + first)) (xs := ((List.replicate size (0 : Int)).set col item).map PyData.int) rfl (ev_op (ev_thaw (i := 4) rfl (ev_op (ev_var (i := 4) rfl) (ev_int (i := 0)) (op_ixL (i := 0) (at_nat (i := 0) (get_dV (by simp; omega))))) thaw_int) (ev_var (i := 3) rfl) op_add) ev_int (by simp; omega)) ?_
  rw [← List.map_set]
  exact rn_ret (i := 4) rfl

def F_sameS (ds : List PyData) (u v : List Int) : Prop := ∃ (n k : Nat), ds = [.int (n : Nat), .int (k : Nat)] ∧ k < n ∧ n ≤ 100 ∧ u = sameRow n k ∧ v = FM.neg (sameRow n k)
theorem D_sameS (h : Has K mg "_law_same" (top 51)) : Dn P w K mg base 1 "_law_same" ["_law_n", "_law_k"] (SpS K T 2 F_sameS) := by
  have nd := sc__law_same.nd
  refine mkS (m := 2) h sc__law_same rfl rfl (fun _ _ _ _ _ _ us hl => match us, hl with | [_, _], _ => rfl) fun f cdv A outer s H E hr => ⟨_, pss_cons (ps_set (i := 2) nd rfl (Or.inl rfl) (pe_op op_rep (pe_lst (pa_cons (pe_int) pa_nil)) (pe_op op_add (pe_op op_mulW (pe_int) (pv 0)) (pe_int)))) (pss_cons (ps_asg (pe_op op_sub (pe_int) (pe_int)) (pg_sub (pv 2) (pe_op op_add (pe_int) (pv 1)) set_list)) (pss_cons (ps_asg (pe_int) (pg_sub (pv 2) (pe_op op_add (pe_op op_add (pe_int) (pv 0)) (pv 1)) set_list)) (pss_one (ps_ret (pe_lst (pa_cons (pv 2) (pa_cons (pe_lc (own := [("_law_item", 3)]) rfl nd (pi_list (pv 2)) (blkOk_by (own := [("_law_item", 3)]) (N := n__law_same) (sc := defScope (top 51)) (by decide +kernel)) (fun _ _ _ _ _ => pg_name (i := 3) nd rfl (Or.inl rfl)) (fun _ _ _ _ _ => pts_nil) (fun _ _ _ _ _ => pe_op op_sub (pe_int) (pv 3))) pa_nil))))))), ?_⟩
  rintro ds u v ⟨n, k, rfl, hk, hn, rfl, rfl⟩ _
  have e0 : List.replicate (2 * n + 1) (PyData.int 0) = (List.replicate (2 * n + 1) (0 : Int)).map PyData.int := by simp
  refine rs_seq (run_setN (en_rep (n := 2 * n + 1) (en_lst (ea_cons (ev_int (i := 0)) ea_nil) (by simp)).e (ev_eq (ev_op (ev_op (ev_int (i := 2)) (ev_var (i := 0) rfl) (op_mulS (by decide) (Nat.lt_of_lt_of_le (show _ < 10000 by omega) (by decide)))) (ev_int (i := 1)) op_add) (by simp)) (by omega)) (by simp [args])) ?_
  rw [e0]
  refine rs_seq (run_setItem (i := 2) (k := 1 + k) (x := .int (-1)) rfl (ev_op (ev_int (i := 0)) (ev_int (i := 1)) op_sub) (ev_eq (ev_op (ev_int (i := 1)) (ev_var (i := 1) rfl) op_add) (by simp)) (by simp; omega)) ?_
  rw [← List.map_set]
  refine rs_seq (run_setItem (i := 2) (k := 1 + n + k) (x := .int 1) (xs := ((List.replicate (2 * n + 1) (0 : Int)).set (1 + k) (-1)).map PyData.int) rfl ev_int (ev_eq (ev_op (ev_op (ev_int (i := 1)) (ev_var (i := 0) rfl) op_add) (ev_var (i := 1) rfl) op_add) (by simp)) (by simp; omega)) ?_
  rw [← List.map_set]
  have ls : (sameRow n k).length ≤ 1000 := by unfold sameRow; simp; omega
  show RunS K T _ [.d (.int (n : Nat)), .d (.int (k : Nat)), .own ((sameRow n k).map .int), .un] (sameRow n k) (FM.neg (sameRow n k))
  generalize sameRow n k = R at ls ⊢
  refine rs_ret (i := 2) rfl ?_
  have em : (FM.neg R).map PyData.int = (R.map PyData.int).map fun d => .int (0 - unI d) := by
    unfold FM.neg; rw [List.map_map, List.map_map]; exact List.map_congr_left fun o _ => by simp [unI]
  rw [em]
  refine en_map (ei_list (ev_var (i := 2) rfl)) (fun d => .int (0 - unI d)) (vs := [3]) (by simp) (fun x => [.d (.int (n : Nat)), .d (.int (k : Nat)), .d (dV R), .d x]) (by simp; omega) (ws := [3]) (by simp) (fun x hx => tg_name (by simp [wipeE])) (fun x hx => ?_)
  obtain ⟨y, _, rfl⟩ := List.mem_map.mp hx
  exact ev_op (ev_int (i := 0)) (ev_var (i := 3) rfl) op_sub
end FD
end
section
set_option Elab.async false
set_option linter.all false
set_option maxRecDepth 100000
set_option maxHeartbeats 4000000
/-! the law's helpers: jump -/
namespace FD
open PySem PySem.Spec PyProof.Rows L2 LamX FW FT FK
def jumpA (z : Int) (n k : Nat) : List (List Int) :=
  if z % 3 = 0 then [sameRow n k, FM.neg (sameRow n k)] else if z % 3 = 1 then [unitM (2 * n + 1) (1 + n + k) 1 (0 - z / 3 % 4), unitM (2 * n + 1) (1 + n + k) (0 - 1) (z / 3 % 4)] else [(sameRow n k).set 0 (z / 3 % 3)]
def guardM (z : Int) (n fixed k : Nat) : List Int :=
  if 0 < fixed ∧ z / 320 % 3 = 0 then (unitM (2 * n + 1) (1 + k) (1 - 2 * (z / 32 % 2)) (z / 64 % 5 - 2)).set 1 (1 - 2 * (z / 960 % 2)) else unitM (2 * n + 1) (1 + k) (1 - 2 * (z / 32 % 2)) (z / 64 % 5 - 2)
def jumpG (z : Int) (n fixed k : Nat) : List (List Int) := if z / 16 % 2 = 1 then [guardM z n fixed k] else []
def relM (ds : List Int) (at_ n fixed : Nat) : List (List Int) :=
  ((List.range fixed).flatMap fun k => [sameRow n k, FM.neg (sameRow n k)]) ++ (List.range (n - fixed)).flatMap fun i => jumpA (dr ds (at_ + 1 + ((fixed + i : Nat) : Int))) n (fixed + i) ++ jumpG (dr ds (at_ + 1 + ((fixed + i : Nat) : Int))) n fixed (fixed + i)
def jumpM (ds : List Int) (at_ n fixed : Nat) (count : Int) : PyData := .tuple [.int (dr ds at_ % count), .int (dr ds at_ / 2 % count), dVs (relM ds at_ n fixed)]
theorem unitM_len (s c : Nat) (i f : Int) : (unitM s c i f).length = s := by unfold unitM; simp
theorem guardM_len (z : Int) (n fixed k : Nat) : (guardM z n fixed k).length = 2 * n + 1 := by unfold guardM; split <;> simp [unitM_len]
variable {P : Program} {w : World} {K : PySem.W.Frag} {mg : Str → Option Value} {base : Heap} {T : List (Addr × Str)}
abbrev n__law_jump : List Str := ["_law_draws", "_law_at", "_law_n", "_law_fixed", "_law_count", "_law_relation", "_law_k", "_law_draw", "_law_worth", "_law_row", "_law_guard"]
theorem sc__law_jump : FnScope n__law_jump ["_law_draws", "_law_at", "_law_n", "_law_fixed", "_law_count"] (defScope (top 52)) := ⟨rfl, rfl, rfl, by decide +kernel, rfl, by decide +kernel, by decide +kernel⟩
def F_jump (ds : List PyData) (r : PyData) : Prop := ∃ (d : List Int) (at_ n fixed count : Nat), ds = [dV d, .int (at_ : Nat), .int (n : Nat), .int (fixed : Nat), .int (count : Nat)] ∧ 0 < d.length ∧ 0 < n ∧ n ≤ 100 ∧ fixed ≤ n ∧ 0 < count ∧ r = jumpM d at_ n fixed count
theorem D_jump (h : Has K mg "_law_jump" (top 52)) (d1 : Dn P w K mg base 1 "_law_unit" ["_law_size", "_law_column", "_law_item", "_law_first"] (SpN K T 4 F_unitN)) (d2 : Dn P w K mg base 1 "_law_same" ["_law_n", "_law_k"] (SpS K T 2 F_sameS)) (m_range : mg "range" = none) (m_len : mg "len" = none) : Dn P w K mg base 2 "_law_jump" ["_law_draws", "_law_at", "_law_n", "_law_fixed", "_law_count"] (SpD K T 5 F_jump) := by
  have nd := sc__law_jump.nd
  obtain ⟨_, _, G__law_unit, m__law_unit, k__law_unit, b__law_unit⟩ := d1
  obtain ⟨_, _, G__law_same, m__law_same, k__law_same, b__law_same⟩ := d2
  refine mkD (m := 6) h sc__law_jump rfl rfl (fun _ _ _ _ _ _ us hl => match us, hl with | [_, _, _, _, _], _ => rfl) fun f cdv A outer s H E hr => ⟨_, pss_cons (ps_set (i := 5) nd rfl (Or.inl rfl) (pe_lst pa_nil)) (pss_cons (ps_for PassesOwn.never rfl (pi_range1 (by rfl) m_range (pa_cons (pv 3) pa_nil)) (pg_name (i := 6) nd rfl (Or.inl rfl)) (pss_one (ps_set (i := 5) nd rfl (Or.inl rfl) (pe_op op_cat (pv 5) (pe_call G__law_same (hr.mono (by decide)) (by rfl) m__law_same k__law_same b__law_same .nil pass0 (pa_cons (pv 2) (pa_cons (pv 6) pa_nil))))))) (pss_cons (ps_for PassesOwn.never rfl (pi_range2 (by rfl) m_range (pa_cons (pv 3) (pa_cons (pv 2) pa_nil))) (pg_name (i := 6) nd rfl (Or.inl rfl)) (pss_cons (ps_set (i := 7) nd rfl (Or.inl rfl) (pe_ix ix_list (pv 0) (pe_op op_mod (pe_op op_add (pe_op op_add (pv 1) (pe_int)) (pv 6)) (pe_callB call_len_seq (by rfl) m_len PySem.boot_len (pa_cons (pv 0) pa_nil))) (fun _ _ => rfl))) (pss_cons (ps_if (pt_cmpR op_eq (pe_op op_mod (pv 7) (pe_int)) (pe_int) (nomark _)) (pss_one (ps_set (i := 5) nd rfl (Or.inl rfl) (pe_op op_cat (pv 5) (pe_call G__law_same (hr.mono (by decide)) (by rfl) m__law_same k__law_same b__law_same .nil pass0 (pa_cons (pv 2) (pa_cons (pv 6) pa_nil)))))) (pss_one (ps_if (pt_cmpR op_eq (pe_op op_mod (pv 7) (pe_int)) (pe_int) (nomark _)) (pss_cons (ps_set (i := 8) nd rfl (Or.inl rfl) (pe_op op_mod (pe_op op_fdivW (pv 7) (pe_int)) (pe_int))) (pss_cons (ps_expr (pe_bm PySem.F.plainAttrs_list PySem.F.slot_list_append PySem.F.type_list_append mt_append (pv 5) (pa_cons (pe_call G__law_unit (hr.mono (by decide)) (by rfl) m__law_unit k__law_unit b__law_unit .nil pass0 (pa_cons (pe_op op_add (pe_op op_mulW (pe_int) (pv 2)) (pe_int)) (pa_cons (pe_op op_add (pe_op op_add (pe_int) (pv 2)) (pv 6)) (pa_cons (pe_int) (pa_cons (pe_op op_sub (pe_int) (pv 8)) pa_nil))))) pa_nil))) (pss_one (ps_expr (pe_bm PySem.F.plainAttrs_list PySem.F.slot_list_append PySem.F.type_list_append mt_append (pv 5) (pa_cons (pe_call G__law_unit (hr.mono (by decide)) (by rfl) m__law_unit k__law_unit b__law_unit .nil pass0 (pa_cons (pe_op op_add (pe_op op_mulW (pe_int) (pv 2)) (pe_int)) (pa_cons (pe_op op_add (pe_op op_add (pe_int) (pv 2)) (pv 6)) (pa_cons (pe_op op_sub (pe_int) (pe_int)) (pa_cons (pv 8) pa_nil))))) pa_nil)))))) (pss_cons (ps_set (i := 9) nd rfl (Or.inl rfl) (pe_ix ix_list (pe_call G__law_same (hr.mono (by decide)) (by rfl) m__law_same k__law_same b__law_same .nil pass0 (pa_cons (pv 2) (pa_cons (pv 6) pa_nil))) (pe_int) (fun _ _ => rfl))) (pss_cons (ps_asg (pe_op op_mod (pe_op op_fdivW (pv 7) (pe_int)) (pe_int)) (pg_sub (pv 9) (pe_int) set_list)) (pss_one (ps_expr (pe_bm PySem.F.plainAttrs_list PySem.F.slot_list_append PySem.F.type_list_append mt_append (pv 5) (pa_cons (pv 9) pa_nil))))))))) (pss_one (ps_if (pt_cmpR op_eq (pe_op op_mod (pe_op op_fdivW (pv 7) (pe_int)) (pe_int)) (pe_int) (nomark _)) (pss_cons (ps_set (i := 10) nd rfl (Or.inl rfl) (pe_call G__law_unit (hr.mono (by decide)) (by rfl) m__law_unit k__law_unit b__law_unit .nil pass0 (pa_cons (pe_op op_add (pe_op op_mulW (pe_int) (pv 2)) (pe_int)) (pa_cons (pe_op op_add (pe_int) (pv 6)) (pa_cons (pe_op op_sub (pe_int) (pe_op op_mulW (pe_int) (pe_op op_mod (pe_op op_fdivW (pv 7) (pe_int)) (pe_int)))) (pa_cons (pe_op op_sub (pe_op op_mod (pe_op op_fdivW (pv 7) (pe_int)) (pe_int)) (pe_int)) pa_nil)))))) (pss_cons (ps_if (PW.pt (pw_and (pt_cmpR op_gt (pv 3) (pe_int) (nomark _)) (pw_and1 (pt_cmpR op_eq (pe_op op_mod (pe_op op_fdivW (pv 7) (pe_int)) (pe_int)) (pe_int) (nomark _))))) (pss_one (ps_asg (pe_op op_sub (pe_int) (pe_op op_mulW (pe_int) (pe_op op_mod (pe_op op_fdivW (pv 7) (pe_int)) (pe_int)))) (pg_sub (pv 10) (pe_int) set_list))) (pss_nil)) (pss_one (ps_expr (pe_bm PySem.F.plainAttrs_list PySem.F.slot_list_append PySem.F.type_list_append mt_append (pv 5) (pa_cons (pv 10) pa_nil)))))) (pss_nil)))))) (pss_cons (ps_set (i := 7) nd rfl (Or.inl rfl) (pe_ix ix_list (pv 0) (pe_op op_mod (pv 1) (pe_callB call_len_seq (by rfl) m_len PySem.boot_len (pa_cons (pv 0) pa_nil))) (fun _ _ => rfl))) (pss_one (ps_ret (pe_tup (pa_cons (pe_op op_mod (pv 7) (pv 4)) (pa_cons (pe_op op_mod (pe_op op_fdivW (pv 7) (pe_int)) (pv 4)) (pa_cons (pv 5) pa_nil))))))))), ?_⟩
  rintro ds r ⟨d, at_, n, fixed, count, rfl, hd, hn0, hn, hf, hc, rfl⟩ _
  refine .inl ?_
  have rng : ∀ (env : En), env[3]? = some (.d (.int (fixed : Nat))) → env[2]? = some (.d (.int (n : Nat))) → EvI K T (iRng2 (tCons (tVar 3) (tCons (tVar 2) tNil))) env ((List.range ((n : Int) - (fixed : Int)).toNat).map fun i => .int ((fixed : Int) + (i : Nat))) := fun env h3 h2 => ei_range2 (ea_cons (ev_var h3) (ea_cons (ev_var h2) ea_nil)) (by omega) (by omega) (by omega)
  have enf : ((n : Int) - (fixed : Int)).toNat = n - fixed := by omega
  have mk : ∀ (acc : List (List Int)) (ek ez e8 e9 e10 : Ent), En := fun acc ek ez e8 e9 e10 => []
  have cat : ∀ (acc : List (List Int)) (k : Nat) (ez e8 e9 e10 : Ent), k < n → acc.length ≤ 1000 → Run K T (tAsg (tOp rCat (tVar 5) (tCall (SpS K T 2 F_sameS) [] E0 (tCons (tVar 2) (tCons (tVar 6) tNil)))) (gName 5)) [.d (dV d), .d (.int (at_ : Nat)), .d (.int (n : Nat)), .d (.int (fixed : Nat)), .d (.int (count : Nat)), .own (acc.map dV), .d (.int (k : Nat)), ez, e8, e9, e10]
      (.nx [.d (dV d), .d (.int (at_ : Nat)), .d (.int (n : Nat)), .d (.int (fixed : Nat)), .d (.int (count : Nat)), .own ((acc ++ [sameRow n k, FM.neg (sameRow n k)]).map dV), .d (.int (k : Nat)), ez, e8, e9, e10]) := fun acc k ez e8 e9 e10 hk hl => by
    refine run_eq (run_setN (i := 5) (en_catOwn (i := 5) rfl (ev_callS (ea_cons (ev_var (i := 2) rfl) (ea_cons (ev_var (i := 6) rfl) ea_nil)) ⟨n, k, rfl, hk, hn, rfl, rfl⟩ rfl) (by simp; omega)) (by simp)) ?_
    simp
  refine run_seq (run_setN (en_lst ea_nil (by simp)) (by simp [args])) ?_
  refine run_seq (run_forN (ei_range1 (ea_cons (ev_var (i := 3) rfl) ea_nil) (by omega) (by omega)) (fun i => [.d (dV d), .d (.int (at_ : Nat)), .d (.int (n : Nat)), .d (.int (fixed : Nat)), .d (.int (count : Nat)), .own (((List.range i).flatMap fun k => [sameRow n k, FM.neg (sameRow n k)]).map dV), .un, .un, .un, .un, .un]) rfl (fun i => by simp) (fun i x hx => ?_)) ?_
  · obtain ⟨hi, rfl⟩ := range_item0 hx
    rw [Int.toNat_natCast] at hi
    have fl := flat_len (f := fun k => [sameRow n k, FM.neg (sameRow n k)]) (c := 2) (fun k => by simp) i
    rw [flat_succ]
    exact ⟨_, .inl (cat _ i .un .un .un .un (by omega) (by omega)), rfl⟩
  rw [List.length_map, List.length_range, Int.toNat_natCast]
  have fl0 := flat_len (f := fun k => [sameRow n k, FM.neg (sameRow n k)]) (c := 2) (fun k => by simp) fixed
  unfold jumpM relM
  generalize ((List.range fixed).flatMap fun k => [sameRow n k, FM.neg (sameRow n k)]) = pre at fl0 ⊢
  let G : Nat → List (List Int) := fun i => jumpA (dr d (at_ + 1 + ((fixed + i : Nat) : Int))) n (fixed + i) ++ jumpG (dr d (at_ + 1 + ((fixed + i : Nat) : Int))) n fixed (fixed + i)
  have gl : ∀ i, (G i).length ≤ 3 := fun i => by
    simp only [G, jumpA, jumpG, List.length_append]
    split <;> split <;> (try split) <;> simp
  refine run_seq (run_forN (rng _ rfl rfl) (fun i => [.d (dV d), .d (.int (at_ : Nat)), .d (.int (n : Nat)), .d (.int (fixed : Nat)), .d (.int (count : Nat)), .own ((pre ++ (List.range i).flatMap G).map dV), .un, .un, .un, .un, .un]) (by simp) (fun i => by simp) (fun i x hx => ?_)) ?_
  · obtain ⟨hi, rfl⟩ := range_item hx
    rw [enf] at hi
    have fl := flat_len gl i
    rw [flat_succ]
    have al : (pre ++ (List.range i).flatMap G).length ≤ 600 := by rw [List.length_append]; omega
    rw [← List.append_assoc]
    generalize pre ++ (List.range i).flatMap G = acc at al ⊢
    simp only [G]
    generalize hk : fixed + i = k
    refine (?_ : ∃ y7 y8 y9 y10, Run K T _ _ (.nx [.d (dV d), .d (.int (at_ : Nat)), .d (.int (n : Nat)), .d (.int (fixed : Nat)), .d (.int (count : Nat)), .own ((acc ++ (jumpA (dr d (at_ + 1 + (k : Int))) n k ++ jumpG (dr d (at_ + 1 + (k : Int))) n fixed k)).map dV), .d (.int (k : Nat)), y7, y8, y9, y10])).elim fun y7 h => h.elim fun y8 h => h.elim fun y9 h => h.elim fun y10 h => ⟨_, .inl (run_endF 7 (run_endF 8 (run_endF 9 (run_endF 10 h)))), rfl⟩
    refine ⟨.un, .un, .un, .un, ?_⟩
    refine run_seq (run_set (ev_draw (i := 0) rfl (ev_op (ev_op (ev_var (i := 1) rfl) (ev_int (i := 1)) op_add) (ev_var (i := 6) rfl) op_add) hd) (by simp)) ?_
    generalize dr d (at_ + 1 + (k : Int)) = z
    have kn : k < n := by omega
    -- the first part
    refine run_seq (env' := [.d (dV d), .d (.int (at_ : Nat)), .d (.int (n : Nat)), .d (.int (fixed : Nat)), .d (.int (count : Nat)), .own ((acc ++ jumpA z n k).map dV), .d (.int (k : Nat)), .d (.int z), .un, .un, .un]) ?_ ?_
    · unfold jumpA
      refine run_if (et_test (ev_op (ev_op (ev_var (i := 7) rfl) (ev_int (i := 3)) (op_modI (by decide))) (ev_int (i := 0)) op_eqI)) (fun q => ?_) (fun q => ?_)
      · have q' : z % 3 = 0 := by simpa using q
        rw [if_pos q']
        exact cat acc k _ .un .un .un kn (by omega)
      · have q' : ¬ z % 3 = 0 := by simpa using q
        rw [if_neg q']
        refine run_if (et_test (ev_op (ev_op (ev_var (i := 7) rfl) (ev_int (i := 3)) (op_modI (by decide))) (ev_int (i := 1)) op_eqI)) (fun q => ?_) (fun q => ?_)
        · have q2 : z % 3 = 1 := by simpa using q
          rw [if_pos q2]
          refine run_endF (env' := [.d (dV d), .d (.int (at_ : Nat)), .d (.int (n : Nat)), .d (.int (fixed : Nat)), .d (.int (count : Nat)), .own ((acc ++ [unitM (2 * n + 1) (1 + n + k) 1 (0 - z / 3 % 4), unitM (2 * n + 1) (1 + n + k) (0 - 1) (z / 3 % 4)]).map dV), .d (.int (k : Nat)), .d (.int z), .d (.int (z / 3 % 4)), .un, .un]) 8 ?_
          have sz : ∀ (env : En), env[2]? = some (.d (.int (n : Nat))) → EvE K T (tOp (rI0 fun i j => .int (i + j)) (tOp (rI CMulW fun i j => .int (i * j)) (tC (.int 2)) (tVar 2)) (tC (.int 1))) env (.int ((2 * n + 1 : Nat) : Int)) := fun env h2 => ev_eq (ev_op (ev_op (ev_int (i := 2)) (ev_var h2) (op_mulS (by decide) (Nat.lt_of_lt_of_le (show _ < 10000 by omega) (by decide)))) (ev_int (i := 1)) op_add) (by simp)
          have cl : ∀ (env : En), env[2]? = some (.d (.int (n : Nat))) → env[6]? = some (.d (.int (k : Nat))) → EvE K T (tOp (rI0 fun i j => .int (i + j)) (tOp (rI0 fun i j => .int (i + j)) (tC (.int 1)) (tVar 2)) (tVar 6)) env (.int ((1 + n + k : Nat) : Int)) := fun env h2 h6 => ev_eq (ev_op (ev_op (ev_int (i := 1)) (ev_var h2) op_add) (ev_var h6) op_add) (by simp)
          refine run_seq (run_set (ev_op (ev_op (ev_var (i := 7) rfl) (ev_int (i := 3)) (op_divS (by decide) (by decide))) (ev_int (i := 4)) (op_modI (by decide))) (by simp)) ?_
          refine run_seq (run_app (i := 5) (x := dV (unitM (2 * n + 1) (1 + n + k) 1 (0 - z / 3 % 4))) rfl (en_callN (ea_cons (sz _ rfl) (ea_cons (cl _ rfl rfl) (ea_cons (ev_int (i := 1)) (ea_cons (ev_op (ev_int (i := 0)) (ev_var (i := 8) rfl) op_sub) ea_nil)))) ⟨2 * n + 1, 1 + n + k, 1, 0 - z / 3 % 4, rfl, by omega, by omega, rfl⟩ rfl).e (by simp; omega)) ?_
          refine run_eq (run_app (i := 5) (x := dV (unitM (2 * n + 1) (1 + n + k) (0 - 1) (z / 3 % 4))) rfl (en_callN (ea_cons (sz _ rfl) (ea_cons (cl _ rfl rfl) (ea_cons (ev_op (ev_int (i := 0)) (ev_int (i := 1)) op_sub) (ea_cons (ev_var (i := 8) rfl) ea_nil)))) ⟨2 * n + 1, 1 + n + k, 0 - 1, z / 3 % 4, rfl, by omega, by omega, rfl⟩ rfl).e (by simp; omega)) ?_
          simp
        · have q2 : ¬ z % 3 = 1 := by simpa using q
          rw [if_neg q2]
          refine run_endF (env' := [.d (dV d), .d (.int (at_ : Nat)), .d (.int (n : Nat)), .d (.int (fixed : Nat)), .d (.int (count : Nat)), .own ((acc ++ [(sameRow n k).set 0 (z / 3 % 3)]).map dV), .d (.int (k : Nat)), .d (.int z), .un, .d (dV ((sameRow n k).set 0 (z / 3 % 3))), .un]) 9 ?_
          refine run_seq (run_setN (i := 9) (en_callS0 (ea_cons (ev_var (i := 2) rfl) (ea_cons (ev_var (i := 6) rfl) ea_nil)) ⟨n, k, rfl, kn, hn, rfl, rfl⟩ rfl) (by simp)) ?_
          refine run_seq (run_setItem (i := 9) (k := 0) (xs := (sameRow n k).map .int) rfl (ev_op (ev_op (ev_var (i := 7) rfl) (ev_int (i := 3)) (op_divS (by decide) (by decide))) (ev_int (i := 3)) (op_modI (by decide))) ev_int (by unfold sameRow; simp)) ?_
          rw [← List.map_set]
          refine run_freeze (i := 9) rfl ?_
          refine run_eq (run_app (i := 5) (x := dV ((sameRow n k).set 0 (z / 3 % 3))) rfl (ev_var (i := 9) rfl) (by simp; omega)) ?_
          simp [dV]
    · -- the guard
      have al2 : (acc ++ jumpA z n k).length ≤ 700 := by
        rw [List.length_append]
        have : (jumpA z n k).length ≤ 2 := by unfold jumpA; split <;> (try split) <;> simp
        omega
      rw [← List.append_assoc]
      generalize acc ++ jumpA z n k = acc2 at al2 ⊢
      unfold jumpG
      refine run_endF (env' := [.d (dV d), .d (.int (at_ : Nat)), .d (.int (n : Nat)), .d (.int (fixed : Nat)), .d (.int (count : Nat)), .own ((acc2 ++ (if z / 16 % 2 = 1 then [guardM z n fixed k] else [])).map dV), .d (.int (k : Nat)), .d (.int z), .un, .un, .un]) 7 ?_
      refine run_if (et_test (ev_op (ev_op (ev_op (ev_var (i := 7) rfl) (ev_int (i := 16)) (op_divS (by decide) (by decide))) (ev_int (i := 2)) (op_modI (by decide))) (ev_int (i := 1)) op_eqI)) (fun q => ?_) (fun q => ?_)
      · have q' : z / 16 % 2 = 1 := by simpa using q
        rw [if_pos q']
        have b32 : (z / 32 % 2).natAbs < 10 := by omega
        have b960 : (z / 960 % 2).natAbs < 10 := by omega
        refine run_endF (env' := [.d (dV d), .d (.int (at_ : Nat)), .d (.int (n : Nat)), .d (.int (fixed : Nat)), .d (.int (count : Nat)), .own ((acc2 ++ [guardM z n fixed k]).map dV), .d (.int (k : Nat)), .d (.int z), .un, .un, .d (dV (guardM z n fixed k))]) 10 ?_
        refine run_seq (run_setN (i := 10) (en_callN (ea_cons (ev_eq (ev_op (ev_op (ev_int (i := 2)) (ev_var (i := 2) rfl) (op_mulS (by decide) (Nat.lt_of_lt_of_le (show _ < 10000 by omega) (by decide)))) (ev_int (i := 1)) op_add) (y := .int ((2 * n + 1 : Nat) : Int)) (by simp)) (ea_cons (ev_eq (ev_op (ev_int (i := 1)) (ev_var (i := 6) rfl) op_add) (y := .int ((1 + k : Nat) : Int)) (by simp)) (ea_cons (ev_op (ev_int (i := 1)) (ev_op (ev_int (i := 2)) (ev_op (ev_op (ev_var (i := 7) rfl) (ev_int (i := 32)) (op_divS (by decide) (by decide))) (ev_int (i := 2)) (op_modI (by decide))) (op_mulS (by decide) (Nat.lt_of_lt_of_le b32 (by decide)))) op_sub) (ea_cons (ev_op (ev_op (ev_op (ev_var (i := 7) rfl) (ev_int (i := 64)) (op_divS (by decide) (by decide))) (ev_int (i := 5)) (op_modI (by decide))) (ev_int (i := 2)) op_sub) ea_nil)))) ⟨2 * n + 1, 1 + k, 1 - 2 * (z / 32 % 2), z / 64 % 5 - 2, rfl, by omega, by omega, rfl⟩ rfl) (by simp)) ?_
        refine run_seq (env' := [.d (dV d), .d (.int (at_ : Nat)), .d (.int (n : Nat)), .d (.int (fixed : Nat)), .d (.int (count : Nat)), .own (acc2.map dV), .d (.int (k : Nat)), .d (.int z), .un, .un, .own ((guardM z n fixed k).map .int)]) ?_ ?_
        · unfold guardM
          have tst := et_and (K := K) (T := T) (et_test (ev_op (env := [.d (dV d), .d (.int (at_ : Nat)), .d (.int (n : Nat)), .d (.int (fixed : Nat)), .d (.int (count : Nat)), .own (acc2.map dV), .d (.int (k : Nat)), .d (.int z), .un, .un, .own ((unitM (2 * n + 1) (1 + k) (1 - 2 * (z / 32 % 2)) (z / 64 % 5 - 2)).map .int)]) (ev_var (i := 3) (x := .int (fixed : Nat)) rfl) (ev_int (i := 0)) op_gtI)) (fun _ => et_test (ev_op (ev_op (ev_op (ev_var (i := 7) (x := .int z) rfl) (ev_int (i := 320)) (op_divS (by decide) (by decide))) (ev_int (i := 3)) (op_modI (by decide))) (ev_int (i := 0)) op_eqI))
          by_cases c : 0 < fixed ∧ z / 320 % 3 = 0
          · rw [if_pos c]
            refine run_if (b := true) (et_eq tst (by simp; omega)) (fun _ => run_eq (run_setItem (i := 10) (k := 1) (x := .int (1 - 2 * (z / 960 % 2))) (xs := (unitM (2 * n + 1) (1 + k) (1 - 2 * (z / 32 % 2)) (z / 64 % 5 - 2)).map .int) rfl (ev_op (ev_int (i := 1)) (ev_op (ev_int (i := 2)) (ev_op (ev_op (ev_var (i := 7) rfl) (ev_int (i := 960)) (op_divS (by decide) (by decide))) (ev_int (i := 2)) (op_modI (by decide))) (op_mulS (by decide) (Nat.lt_of_lt_of_le b960 (by decide)))) op_sub) ev_int (by rw [List.length_map, unitM_len]; omega)) ?_) (fun q => by cases q)
            rw [← List.map_set]; rfl
          · rw [if_neg c]
            refine run_if (b := false) (et_eq tst (by simp; omega)) (fun q => by cases q) (fun _ => run_next)
        · refine run_freeze (i := 10) rfl ?_
          refine run_eq (run_app (i := 5) (x := dV (guardM z n fixed k)) rfl (ev_var (i := 10) rfl) (by simp; omega)) ?_
          simp [dV]
      · have q' : ¬ z / 16 % 2 = 1 := by simpa using q
        rw [if_neg q']
        refine run_eq run_next ?_
        simp
  · rw [List.length_map, List.length_range, enf]
    refine run_freeze (i := 5) rfl ?_
    refine run_seq (run_set (ev_draw (i := 0) rfl (ev_var (i := 1) rfl) hd) (by simp)) ?_
    exact run_ret (ev_tup (ea_cons (ev_op (ev_var (i := 7) rfl) (ev_var (i := 4) rfl) (op_modI (by omega))) (ea_cons (ev_op (ev_op (ev_var (i := 7) rfl) (ev_int (i := 2)) (op_divS (by decide) (by decide))) (ev_var (i := 4) rfl) (op_modI (by omega))) (ea_cons (ev_var (i := 5) rfl) ea_nil))) (by simp))
end FD
end
section
set_option Elab.async false
set_option linter.all false
set_option maxRecDepth 100000
set_option maxHeartbeats 4000000
/-! the law's helpers: waits -/
namespace FD
open PySem PySem.Spec PyProof.Rows L2 LamX FW FT FK
variable {P : Program} {w : World} {K : PySem.W.Frag} {mg : Str → Option Value} {base : Heap} {T : List (Addr × Str)} {CB : Addr}
abbrev n__law_waits : List Str := ["_law_system_here", "_law_location_here", "_law_point", "_law_other"]
theorem sc__law_waits : FnScope n__law_waits ["_law_system_here", "_law_location_here", "_law_point", "_law_other"] (defScope (top 58)) := ⟨rfl, rfl, rfl, by decide +kernel, rfl, by decide +kernel, by decide +kernel⟩
def F_waits (ds : List PyData) (r : PyData) : Prop := ∃ (S : Sys) (i : Nat) (l : Loc) (p q : List Int), ds = [dSys S, .int (i : Nat), dV p, dV q] ∧ S.locs[i]? = some l ∧ LocOk l ∧ Bd 300000 p ∧ Bd 300000 q ∧ holdsB l.1 p = true ∧ (holdsB l.1 q = true → WaitOk S l p q) ∧ r = .bool (holdsB l.1 q && FM.hasPoint (reach S l p) q)
theorem shaped_state (i : Int) (v : List Int) : SeqAt.shaped (.tuple [.int i, dV v]) = true := by
  unfold SeqAt.shaped
  have h1 : PyData.canLay0 (.tuple [.int i, dV v]) = true := by
    show (PyData.canLay0 (.int i) && (PyData.canLay0 (dV v) && PyData.canLayAll0 [])) = true
    rw [lay_dV]; rfl
  have h2 : PyData.depth (.tuple [.int i, dV v]) ≤ 2 := by
    show PyData.depthAll [.int i, dV v] + 1 ≤ 2
    show max (PyData.depth (.int i)) (max (PyData.depth (dV v)) 0) + 1 ≤ 2
    rw [depth_dV]
    have : PyData.depth (.int i) = 0 := rfl
    omega
  rw [h1, decide_eq_true (by omega)]; rfl
theorem op_eqDK {X : Cx} {K : PySem.W.Frag} (hK : X.K = K) (hu : X.A.units + 64 < cLine) : OpR X (compareOp .Eq) (rEqD K) := hK ▸ op_eqD hu
theorem D_waits (h : Has K mg "_law_waits" (top 58)) (B : BadB K mg CB) (d1 : Xn P w K mg base 16 "leads_to" ["system", "state", "step"] (SpX K T CB 3 F_leads_to)) : Dn P w K mg base 17 "_law_waits" ["_law_system_here", "_law_location_here", "_law_point", "_law_other"] (SpD K T 4 F_waits) := by
  have nd := sc__law_waits.nd
  obtain ⟨_, _, G_leads_to, m_leads_to, k_leads_to, b_leads_to⟩ := d1
  refine mkD (m := 0) h sc__law_waits rfl rfl (fun _ _ _ _ _ _ us hl => match us, hl with | [_, _, _, _], _ => rfl) fun f cdv A outer s H E hr => ?_
  have hNames : Names (cxOf CX0 P w K mg base n__law_waits "_law_waits" (defScope (top 58)) f cdv A outer s H E).nox "BadRun" (.ref CB) := ⟨rfl, by decide, .inl B.g⟩
  refine ⟨_, pss_one (ps_try_only (c := .ref CB) rfl rfl hNames L2.takes0 (fun W pn xe tk po => pss_one (ps_ret (pe_cmpR (op_eqDK (K := K) rfl (hu64 hr)) (pe_call G_leads_to (hr.mono (by decide)) (by rfl) m_leads_to k_leads_to b_leads_to .nil (passes_call tk (E := fun cls d H => ∀ σ, W cls d σ H) (fun _ _ σ _ h => h σ)) (pa_cons (pv 0) (pa_cons (pe_tup (pa_cons (pv 1) (pa_cons (pv 2) pa_nil))) (pa_cons (pe_tup (pa_cons (pe_str) (pa_cons (pv 3) pa_nil))) pa_nil)))) (pe_tup (pa_cons (pv 1) (pa_cons (pv 3) pa_nil))) (nomark _)))) (fun a oe cls d pn _ _ => pss_one (ps_ret (pe_bl)))), ?_⟩
  rintro ds r ⟨S, i, l, p, q, rfl, hl, ok, hp, hq, hb, wok, rfl⟩ _
  refine .inl ?_
  have ar : EvA K T (tCons (tVar 0) (tCons (tTup (tCons (tVar 1) (tCons (tVar 2) tNil))) (tCons (tTup (tCons (tC (.str "wait")) (tCons (tVar 3) tNil))) tNil))) (args [dSys S, .int (i : Nat), dV p, dV q] 0) [dSys S, .tuple [.int (i : Nat), dV p], .tuple [.str "wait", dV q]] :=
    ea_cons (ev_var (i := 0) rfl) (ea_cons (ev_tup (ea_cons (ev_var (i := 1) rfl) (ea_cons (ev_var (i := 2) rfl) ea_nil)) (by simp)) (ea_cons (ev_tup (ea_cons ev_str (ea_cons (ev_var (i := 3) rfl) ea_nil)) (by simp)) ea_nil))
  have FL : F_leads_to [dSys S, .tuple [.int (i : Nat), dV p], .tuple [.str "wait", dV q]] (waitTo S i l p q) := ⟨S, i, l, p, q, rfl, hl, ok, hp, hq, hb, wok, rfl⟩
  unfold waitTo at FL
  cases hz : (holdsB l.1 q && FM.hasPoint (reach S l p) q) with
  | true =>
    rw [hz] at FL
    intro Mu Av0 H0 Av σ H D Sx g
    refine run_ret (ev_eq (ev_op (ev_callX ar FL rfl) (ev_tup (ea_cons (ev_var (i := 1) rfl) (ea_cons (ev_var (i := 3) rfl) ea_nil)) (by simp)) (op_eqDat (shaped_state _ _) (shaped_state _ _))) ?_) _ _ _ _ _ _ _ Sx g
    congr 1
    show (PyData.eqv (.int i) (.int i) && (PyData.eqv (dV q) (dV q) && true)) = true
    rw [eqv_dV]
    have : PyData.eqv (.int i) (.int i) = true := by first | rfl | simp [PyData.eqv]
    rw [this]; simp
  | false =>
    rw [hz] at FL
    intro Mu Av0 H0 Av σ H D Sx g
    refine er_op (er_callX ar FL rfl) _ _ _ _ _ _ Sx (fun H' e t σ' => ⟨true, B.m, fun _ a ha => ?_, fun z => nomatch z⟩) _
    have S1 := Sx.grow e t
    exact g (.bl false) H' S1.gw t (.bl false) trivial
end FD
end
section
set_option Elab.async false
set_option linter.all false
set_option maxRecDepth 100000
set_option maxHeartbeats 4000000
/-! the law's helpers: moved -/
namespace FD
open PySem PySem.Spec PyProof.Rows L2 LamX FW FT FK
/-- the points' items behind k places -/
def mvK (rate : List Int) (time : Int) (mv : List Int) : Nat → List Int
  | 0 => mv
  | k + 1 => (mvK rate time mv k).set (1 + k) (FM.col (mvK rate time mv k) (1 + k) + time * FM.col rate (1 + k) * (FM.col (mvK rate time mv k) 0 / FM.col rate 0))
def mvJ (n : Nat) (rates : List (List Int)) (p : List Int) (draw : Int) : Nat → List Int × Int
  | 0 => (p.map fun x => x * 2, draw)
  | j + 1 => (mvK (rates.getD j []) ((mvJ n rates p draw j).2 % 7) ((mvJ n rates p draw j).1.map fun x => FM.col (rates.getD j []) 0 * x) n, (mvJ n rates p draw j).2 / 7)
def movedM (n : Nat) (rates : List (List Int)) (p : List Int) (draw : Int) : List Int := FM.primitive (mvJ n rates p draw rates.length).1
theorem mvK_len (rate : List Int) (time : Int) (mv : List Int) : ∀ k, (mvK rate time mv k).length = mv.length
  | 0 => rfl
  | k + 1 => by unfold mvK; rw [List.length_set]; exact mvK_len rate time mv k
theorem mvJ_len (n : Nat) (rates : List (List Int)) (p : List Int) (draw : Int) : ∀ j, (mvJ n rates p draw j).1.length = p.length
  | 0 => by simp [mvJ]
  | j + 1 => by unfold mvJ; rw [mvK_len, List.length_map]; exact mvJ_len n rates p draw j
theorem bd_set {b : Nat} {v : List Int} {i : Nat} {x : Int} (h : Bd b v) (hx : x.natAbs < 2 ^ b) : Bd b (v.set i x) := fun y hy => by
  rcases List.mem_or_eq_of_mem_set hy with hy | rfl
  · exact h y hy
  · exact hx
theorem ediv_bd {a c : Int} {b : Nat} (h : a.natAbs < 2 ^ b) (hc : 0 < c) : (a / c).natAbs < 2 ^ (b + 1) := by
  have h1 : a / c ≤ a.natAbs := by
    rcases Int.le_total 0 a with z | z
    · exact Int.le_trans (Int.ediv_le_self c z) (by omega)
    · have := Int.ediv_le_ediv hc z
      rw [Int.zero_ediv] at this
      omega
  have h2 : -(a.natAbs : Int) - 1 ≤ a / c := by
    have : -(a.natAbs : Int) ≤ a := by omega
    have h3 := Int.ediv_le_ediv hc this
    have h4 : -(a.natAbs : Int) ≤ -(a.natAbs : Int) / c := by
      refine (Int.le_ediv_iff_mul_le hc).mpr ?_
      have : (a.natAbs : Int) * 1 ≤ (a.natAbs : Int) * c := Int.mul_le_mul_of_nonneg_left (by omega) (by omega)
      rw [Int.neg_mul]; omega
    omega
  rw [Nat.pow_succ]
  omega
theorem mvK_bd {rate : List Int} {time : Int} {mv : List Int} {b n : Nat} (hr : Bd 10 rate) (h0 : 0 < FM.col rate 0) (ht : time.natAbs < 2 ^ 3) (hl : mv.length = n + 1) (lr : rate.length = n + 1) (hm : Bd b mv) : ∀ k, k ≤ n → FM.col (mvK rate time mv k) 0 = FM.col mv 0 ∧ (∀ i, k < i → FM.col (mvK rate time mv k) i = FM.col mv i) ∧ Bd (b + 15) (mvK rate time mv k)
  | 0, _ => ⟨rfl, fun _ _ => rfl, hm.mono (by omega)⟩
  | k + 1, hk => by
    obtain ⟨i1, i2, i3⟩ := mvK_bd hr h0 ht hl lr hm k (by omega)
    have cs : ∀ (v : List Int) (i j : Nat) (x : Int), i ≠ j → FM.col (v.set i x) j = FM.col v j := fun v i j x h => by
      unfold FM.col
      rw [List.getD_eq_getElem?_getD, List.getD_eq_getElem?_getD, List.getElem?_set_ne h]
    have e1 := i2 (1 + k) (by omega)
    refine ⟨?_, fun i hi => ?_, ?_⟩
    · unfold mvK; rw [cs _ _ _ _ (by omega)]; exact i1
    · unfold mvK; rw [cs _ _ _ _ (by omega)]; exact i2 i (by omega)
    · unfold mvK
      refine bd_set i3 ?_
      rw [e1, i1]
      have c1 := col_bd hm (c := 1 + k) (by omega)
      have c2 := col_bd hm (c := 0) (by omega)
      have c3 := col_bd hr (c := 1 + k) (by omega)
      have c4 := ediv_bd c2 h0
      have c5 := wide_lt (wide_lt ht c3) c4
      have p1 : 2 ^ b ≤ 2 ^ (3 + 10 + (b + 1)) := Nat.pow_le_pow_right (by decide) (by omega)
      rw [show b + 15 = 3 + 10 + (b + 1) + 1 by omega, Nat.pow_succ]
      omega
variable {P : Program} {w : World} {K : PySem.W.Frag} {mg : Str → Option Value} {base : Heap} {T : List (Addr × Str)}
abbrev n__law_moved : List Str := ["_law_system_here", "_law_location_here", "_law_point", "_law_draw", "_law_rates", "_law_moved_here", "_law_rest", "_law_j", "_law_time", "_law_scale", "_law_k", "_law_item"]
theorem sc__law_moved : FnScope n__law_moved ["_law_system_here", "_law_location_here", "_law_point", "_law_draw"] (defScope (top 57)) := ⟨rfl, rfl, rfl, by decide +kernel, rfl, by decide +kernel, by decide +kernel⟩
def F_moved (ds : List PyData) (r : PyData) : Prop := ∃ (S : Sys) (i : Nat) (l : Loc) (p : List Int) (draw : Int), ds = [dSys S, .int (i : Nat), dV p, .int draw] ∧ S.locs[i]? = some l ∧ S.n ≤ 100 ∧ p.length = S.n + 1 ∧ Bd 1000 p ∧ (∀ r ∈ l.2, r.length = S.n + 1 ∧ Bd 10 r ∧ 0 < FM.col r 0) ∧ l.2.length ≤ 10 ∧ r = dV (movedM S.n l.2 p draw)
theorem mvJ_bd {n : Nat} {rates : List (List Int)} {p : List Int} {draw : Int} (hp : p.length = n + 1) (hb : Bd 1000 p) (hr : ∀ r ∈ rates, r.length = n + 1 ∧ Bd 10 r ∧ 0 < FM.col r 0) : ∀ j, j ≤ rates.length → Bd (1001 + 25 * j) (mvJ n rates p draw j).1
  | 0, _ => fun x hx => by
    obtain ⟨y, hy, rfl⟩ := List.mem_map.mp hx
    have := hb y hy
    rw [show 1001 + 25 * 0 = 1000 + 1 from rfl, Nat.pow_succ]
    omega
  | j + 1, hj => by
    have ih := mvJ_bd hp hb hr (draw := draw) j (by omega)
    have e : rates.getD j [] ∈ rates := by
      rw [List.getD_eq_getElem?_getD, List.getElem?_eq_getElem (by omega)]
      exact List.getElem_mem _
    obtain ⟨r1, r2, r3⟩ := hr _ e
    have lm := mvJ_len n rates p draw j
    unfold mvJ
    have sc : Bd (1001 + 25 * j + 10) ((mvJ n rates p draw j).1.map fun x => FM.col (rates.getD j []) 0 * x) := fun x hx => by
      obtain ⟨y, hy, rfl⟩ := List.mem_map.mp hx
      have := wide_lt (col_bd r2 (c := 0) (by omega)) (ih y hy)
      rw [Nat.add_comm (1001 + 25 * j) 10]; exact this
    have m7 := Int.emod_nonneg (mvJ n rates p draw j).2 (show (7 : Int) ≠ 0 by decide)
    have m8 := Int.emod_lt_of_pos (mvJ n rates p draw j).2 (show (0 : Int) < 7 by decide)
    exact (mvK_bd (n := n) r2 r3 (by omega) (by rw [List.length_map, lm, hp]) r1 sc n (Nat.le_refl n)).2.2.mono (by omega)
theorem dall_intsAv {Av Av' : Avs} {H : Hp} : ∀ {ns : List Int} {vs : List V}, DAll K Av H vs (ns.map PyData.int) → DAll K Av' H vs (ns.map PyData.int) := fun {ns vs} h => by
  rw [h.ints_eq]; exact DAll.ints
theorem en_thawI {env : En} {te : TE} {xs : List PyData} {ns : List Int} {i : Nat} (hi : env[i]? = some (.own xs)) (h : EvN K T te (env.set i (.d (.list xs))) (ns.map .int)) : EvN K T te env (ns.map .int) := fun Mu Av0 H0 Av σ H S Q q => by
  obtain ⟨l, us, q1, q2, q3, q4, q5, q6⟩ := S.own i xs hi
  obtain ⟨Av', S', p⟩ := S.freeze hi
  have hav : ∀ D, Fresh H D → ¬ Av' D → ¬ Av D := fun D f n z => by
    obtain ⟨o, z1, z2⟩ := S.av D z
    obtain ⟨ps, z3⟩ := f o z1
    exact z2 ps z3
  exact h _ _ _ _ _ _ S' Q fun D vs H' f n e t hD r => q D vs H' f (hav D f n) e t hD (dall_intsAv r)
theorem D_moved (h : Has K mg "_law_moved" (top 57)) (d1 : Dn P w K mg base 1 "_law_primitive" ["_law_vector"] (SpD K T 1 F_lprim)) (m_range : mg "range" = none) (m_len : mg "len" = none) (m_int : mg "int" = none) : Dn P w K mg base 2 "_law_moved" ["_law_system_here", "_law_location_here", "_law_point", "_law_draw"] (SpD K T 4 F_moved) := by
  have nd := sc__law_moved.nd
  obtain ⟨_, _, G__law_primitive, m__law_primitive, k__law_primitive, b__law_primitive⟩ := d1
  refine mkD (m := 8) h sc__law_moved rfl rfl (fun _ _ _ _ _ _ us hl => match us, hl with | [_, _, _, _], _ => rfl) fun f cdv A outer s H E hr => ⟨_, pss_cons (ps_set (i := 4) nd rfl (Or.inl rfl) (pe_ix ix_tup (pe_ix ix_list (pe_ix ix_tup (pv 0) (pe_int) (fun _ _ => rfl)) (pv 1) (fun _ _ => rfl)) (pe_int) (fun _ _ => rfl))) (pss_cons (ps_set (i := 5) nd rfl (Or.inl rfl) (pe_op op_cat (pe_lst (pa_cons (pe_op op_mulW (pe_ix ix_list (pv 2) (pe_int) (fun _ _ => rfl)) (pe_int)) pa_nil)) (pe_lc (own := [("_law_k", 10)]) rfl nd (pi_range1 (by rfl) m_range (pa_cons (pe_ix ix_tup (pv 0) (pe_int) (fun _ _ => rfl)) pa_nil)) (blkOk_by (own := [("_law_k", 10)]) (N := n__law_moved) (sc := defScope (top 57)) (by decide +kernel)) (fun _ _ _ _ _ => pg_name (i := 10) nd rfl (Or.inl rfl)) (fun _ _ _ _ _ => pts_nil) (fun _ _ _ _ _ => pe_op op_mulW (pe_ix (ix_listK (K := K) rfl) (pv 2) (pe_op op_add (pe_int) (pv 10)) (fun _ _ => rfl)) (pe_int))))) (pss_cons (ps_set (i := 6) nd rfl (Or.inl rfl) (pv 3)) (pss_cons (ps_for PassesOwn.never rfl (pi_range1 (by rfl) m_range (pa_cons (pe_callB call_len_seq (by rfl) m_len PySem.boot_len (pa_cons (pv 4) pa_nil)) pa_nil)) (pg_name (i := 7) nd rfl (Or.inl rfl)) (pss_cons (ps_set (i := 8) nd rfl (Or.inl rfl) (pe_op op_mod (pe_callTy call_int1 (by rfl) m_int (by decide +kernel) (pa_cons (pv 6) pa_nil)) (pe_int))) (pss_cons (ps_set (i := 6) nd rfl (Or.inl rfl) (pe_op op_fdivW (pv 6) (pe_int))) (pss_cons (ps_set (i := 9) nd rfl (Or.inr rfl) (pe_ix ix_list (pe_ix ix_list (pv 4) (pv 7) (fun _ _ => rfl)) (pe_int) (fun _ _ => rfl))) (pss_cons (ps_setLc (i := 5) (own := [("_law_item", 11)]) rfl nd rfl rfl (sw_true rfl rfl rfl (by decide +kernel)) (pi_list (pv 5)) (blkOk_by (own := [("_law_item", 11)]) (N := n__law_moved) (sc := defScope (top 57)) (by decide +kernel)) (fun _ _ _ _ _ => pg_name (i := 11) nd rfl (Or.inl rfl)) (fun _ _ _ _ _ => pts_nil) (fun _ _ _ _ _ => pe_op op_mulW (pv 9) (pv 11))) (pss_one (ps_for PassesOwn.never rfl (pi_range1 (by rfl) m_range (pa_cons (pe_ix ix_tup (pv 0) (pe_int) (fun _ _ => rfl)) pa_nil)) (pg_name (i := 10) nd rfl (Or.inl rfl)) (pss_one (ps_asg (pe_op op_add (pe_ix ix_list (pv 5) (pe_op op_add (pe_int) (pv 10)) (fun _ _ => rfl)) (pe_op op_mulW (pe_op op_mulW (pv 8) (pe_ix ix_list (pe_ix ix_list (pv 4) (pv 7) (fun _ _ => rfl)) (pe_op op_add (pe_int) (pv 10)) (fun _ _ => rfl))) (pe_op op_fdivW (pe_ix ix_list (pv 5) (pe_int) (fun _ _ => rfl)) (pv 9)))) (pg_sub (pv 5) (pe_op op_add (pe_int) (pv 10)) set_list)))))))))) (pss_one (ps_ret (pe_call G__law_primitive (hr.mono (by decide)) (by rfl) m__law_primitive k__law_primitive b__law_primitive .nil pass0 (pa_cons (pv 5) pa_nil))))))), ?_⟩
  rintro ds r ⟨S, i, l, p, draw, rfl, hl, hn, lp, hp, hr, hc, rfl⟩ _
  refine .inl ?_
  refine run_seq (run_set (x := dVs l.2) (ev_op (ev_op (ev_op (ev_var (i := 0) rfl) (ev_int (i := 2)) (op_ixT (i := 2) (x := .list (S.locs.map dLoc)) (at_nat (i := 2) rfl))) (ev_var (i := 1) rfl) (op_ixL (x := dLoc l) (at_nat (by rw [List.getElem?_map, hl]; rfl)))) (ev_int (i := 1)) (op_ixT (i := 1) (at_nat (i := 1) rfl))) (by simp [args])) ?_
  obtain ⟨inv, rates⟩ := l
  replace hr : ∀ r ∈ rates, r.length = S.n + 1 ∧ Bd 10 r ∧ 0 < FM.col r 0 := hr
  replace hc : rates.length ≤ 10 := hc
  have sm : ∀ {b : Nat} {x : Int}, x.natAbs < 2 ^ b → b ≤ 300000 → x.natAbs < 2 ^ 300000 := fun {b x} h e => Nat.lt_of_lt_of_le h (Nat.pow_le_pow_right (by decide) e)
  have e0 : [PyData.int (FM.col p 0 * 2)] ++ ((List.range S.n).map fun k => PyData.int (FM.col p (1 + k) * 2)) = (p.map fun x => x * 2).map PyData.int := by
    cases p with
    | nil => simp at lp
    | cons x v =>
      have lv : v.length = S.n := by simpa using lp
      rw [List.map_cons, List.map_cons, List.singleton_append, List.map_map]
      congr 1
      refine List.ext_getElem (by simp [lv]) fun k h1 h2 => ?_
      have hk : k < v.length := by rw [lv]; simpa using h1
      simp only [List.getElem_map, List.getElem_range, Function.comp]
      have : FM.col (x :: v) (1 + k) = v[k] := by rw [Nat.add_comm, show FM.col (x :: v) (k + 1) = FM.col v k by simp [FM.col], FM.col_get hk]
      rw [this]
  refine run_seq (env' := [.d (dSys S), .d (.int (i : Nat)), .d (dV p), .d (.int draw), .d (dVs rates), .own ((p.map fun x => x * 2).map .int), .un, .un, .un, .un, .un, .un]) ?_ ?_
  · rw [← e0]
    have hmul : ∀ {c : Nat}, c < p.length → OpD K T (rI CMulW fun i j => .int (i * j)) (.int (FM.col p c)) (.int 2) (.int (FM.col p c * 2)) := fun {c} hcc => op_mul (wmul (col_bd hp hcc) (show (2 : Int).natAbs < 2 ^ 2 by decide) (by decide))
    have em : ((List.range S.n).map fun k => PyData.int (FM.col p (1 + k) * 2)) = ((List.range ((S.n : Nat) : Int).toNat).map fun i => PyData.int (i : Nat)).map fun d => .int (FM.col p (1 + (unI d).toNat) * 2) := by
      rw [List.map_map, Int.toNat_natCast]; exact List.map_congr_left fun o _ => by simp [unI]
    rw [em]
    refine run_setN (i := 5) (en_cat (en_lst (ea_cons (ev_op (ev_op (ev_var (i := 2) rfl) (ev_int (i := 0)) (op_ixL (i := 0) (at_nat (i := 0) (get_dV (by omega))))) (ev_int (i := 2)) (hmul (by omega))) ea_nil) (by simp)).e (en_map (ei_range1 (n := (S.n : Nat)) (ea_cons (ev_op (ev_var (i := 0) rfl) (ev_int (i := 0)) (op_ixT (i := 0) (at_nat (i := 0) rfl))) ea_nil) (by omega) (by omega)) (fun d => .int (FM.col p (1 + (unI d).toNat) * 2)) (vs := [10]) (by simp [args]) (fun x => [.d (dSys S), .d (.int (i : Nat)), .d (dV p), .d (.int draw), .d (dVs rates), .un, .un, .un, .un, .un, .d x, .un]) (by simp; omega) (ws := [10]) (by simp) (fun x hx => tg_name (by simp [wipeE, args])) (fun x hx => ?_)).e (by simp; omega)) (by simp [args])
    obtain ⟨k, hk, rfl⟩ := List.mem_map.mp hx
    rw [List.mem_range, Int.toNat_natCast] at hk
    refine ev_op (ev_op (ev_var (i := 2) rfl) (ev_eq (ev_op (ev_int (i := 1)) (ev_var (i := 10) rfl) op_add) (y := .int ((1 + k : Nat) : Int)) (by simp)) (op_ixL (at_nat (get_dV (by omega))))) (ev_int (i := 2)) ?_
    simp only [unI, Int.toNat_natCast]
    exact hmul (by omega)
  refine run_seq (run_set (ev_var (i := 3) rfl) (by simp)) ?_
  have lm := mvJ_len S.n rates p draw
  have bm := mvJ_bd lp hp hr (draw := draw)
  have erl : (rates.map dV).length = rates.length := by simp
  refine run_seq (run_forN (ei_range1 (n := ((rates.map dV).length : Nat)) (ea_cons (ev_len (ev_var (i := 4) rfl)) ea_nil) (by simp; omega) (by omega)) (fun j => [.d (dSys S), .d (.int (i : Nat)), .d (dV p), .d (.int draw), .d (dVs rates), .own ((mvJ S.n rates p draw j).1.map .int), .d (.int (mvJ S.n rates p draw j).2), .un, .un, .un, .un, .un]) rfl (fun i => by simp) (fun j x hx => ?_)) ?_
  · obtain ⟨hj, rfl⟩ := range_item0 hx
    rw [Int.toNat_natCast, erl] at hj
    have ej : rates[j]? = some (rates.getD j []) := by rw [List.getD_eq_getElem?_getD, List.getElem?_eq_getElem hj]; rfl
    have rm : rates.getD j [] ∈ rates := List.mem_of_getElem? ej
    obtain ⟨r1, r2, r3⟩ := hr _ rm
    have lj := lm j
    have bj := bm j (by omega)
    show ∃ e, (Run K T _ _ (.nx e) ∨ _) ∧ e.set 7 .un = [.d (dSys S), .d (.int (i : Nat)), .d (dV p), .d (.int draw), .d (dVs rates), .own ((mvK (rates.getD j []) ((mvJ S.n rates p draw j).2 % 7) ((mvJ S.n rates p draw j).1.map fun x => FM.col (rates.getD j []) 0 * x) S.n).map .int), .d (.int ((mvJ S.n rates p draw j).2 / 7)), .un, .un, .un, .un, .un]
    generalize rates.getD j [] = rate at ej r1 r2 r3
    generalize mvJ S.n rates p draw j = st at lj bj ⊢
    obtain ⟨mv, rest⟩ := st
    replace lj : mv.length = p.length := lj
    replace bj : Bd (1001 + 25 * j) mv := bj
    simp only
    have t7 : (rest % 7).natAbs < 2 ^ 3 := by
      have m7 := Int.emod_nonneg rest (show (7 : Int) ≠ 0 by decide)
      have m8 := Int.emod_lt_of_pos rest (show (0 : Int) < 7 by decide)
      omega
    generalize ht : rest % 7 = time at t7 ⊢
    refine (?_ : ∃ y8 y9, Run K T _ _ (.nx [.d (dSys S), .d (.int (i : Nat)), .d (dV p), .d (.int draw), .d (dVs rates), .own ((mvK rate time (mv.map fun x => FM.col rate 0 * x) S.n).map .int), .d (.int (rest / 7)), .d (.int (j : Nat)), y8, y9, .un, .un])).elim fun y8 h => h.elim fun y9 h => ⟨_, .inl (run_endF 8 (run_endF 9 h)), rfl⟩
    refine ⟨.d (.int time), .d (.int (FM.col rate 0)), ?_⟩
    refine run_seq (run_set (x := .int time) (ev_eq (ev_op (ev_intc (ev_var (i := 6) rfl)) (ev_int (i := 7)) (op_modI (by decide))) (by rw [ht])) (by simp)) ?_
    refine run_seq (run_set (ev_op (ev_var (i := 6) rfl) (ev_int (i := 7)) (op_divS (by decide) (by decide))) (by simp)) ?_
    refine run_seq (run_set (x := .int (FM.col rate 0)) (ev_op (ev_op (ev_var (i := 4) rfl) (ev_var (i := 7) rfl) (op_ixL (x := dV rate) (at_nat (by rw [List.getElem?_map, ej]; rfl)))) (ev_int (i := 0)) (op_ixL (i := 0) (at_nat (i := 0) (get_dV (by omega))))) (by simp)) ?_
    have em : ((mv.map fun x => FM.col rate 0 * x).map PyData.int) = (mv.map PyData.int).map fun d => .int (FM.col rate 0 * unI d) := by rw [List.map_map, List.map_map]; rfl
    have c0 := col_bd r2 (c := 0) (by omega)
    refine run_seq (run_setN (i := 5) (xs := (mv.map fun x => FM.col rate 0 * x).map .int) (en_thawI (i := 5) rfl (em ▸ en_map (ei_list (ev_var (i := 5) rfl)) (fun d => .int (FM.col rate 0 * unI d)) (vs := [11]) (by simp) (fun x => [.d (dSys S), .d (.int (i : Nat)), .d (dV p), .d (.int draw), .d (dVs rates), .d (dV mv), .d (.int (rest / 7)), .d (.int (j : Nat)), .d (.int time), .d (.int (FM.col rate 0)), .un, .d x]) (by simp; omega) (ws := [11]) (by simp) (fun x hx => tg_name (by simp [wipeE])) (fun x hx => ?_))) (by simp)) ?_
    · obtain ⟨y, hy, rfl⟩ := List.mem_map.mp hx
      exact ev_op (ev_var (i := 9) rfl) (ev_var (i := 11) rfl) (op_mul (wmul c0 (bj y hy) (by omega)))
    have sc : Bd (1001 + 25 * j + 10) (mv.map fun x => FM.col rate 0 * x) := fun x hx => by
      obtain ⟨y, hy, rfl⟩ := List.mem_map.mp hx
      have := wide_lt c0 (bj y hy)
      rw [Nat.add_comm (1001 + 25 * j) 10]; exact this
    have l2 : (mv.map fun x => FM.col rate 0 * x).length = S.n + 1 := by rw [List.length_map, lj, lp]
    generalize (mv.map fun x => FM.col rate 0 * x) = m2 at sc l2 ⊢
    refine run_eq (run_forN (j := 10) (ei_range1 (n := (S.n : Nat)) (ea_cons (ev_op (ev_var (i := 0) rfl) (ev_int (i := 0)) (op_ixT (i := 0) (at_nat (i := 0) rfl))) ea_nil) (by omega) (by omega)) (fun k => [.d (dSys S), .d (.int (i : Nat)), .d (dV p), .d (.int draw), .d (dVs rates), .own ((mvK rate time m2 k).map .int), .d (.int (rest / 7)), .d (.int (j : Nat)), .d (.int time), .d (.int (FM.col rate 0)), .un, .un]) rfl (fun i => by simp) (fun k x hx => ?_)) (by rw [List.length_map, List.length_range, Int.toNat_natCast])
    obtain ⟨hk, rfl⟩ := range_item0 hx
    rw [Int.toNat_natCast] at hk
    obtain ⟨k1, k2, k3⟩ := mvK_bd r2 r3 t7 l2 r1 sc k (by omega)
    have lk := mvK_len rate time m2 k
    have c3 := col_bd r2 (c := 1 + k) (by omega)
    have c4 := col_bd k3 (c := 0) (by omega)
    refine ⟨_, .inl (run_setItem (i := 5) (k := 1 + k) (xs := (mvK rate time m2 k).map .int) (x := .int (FM.col (mvK rate time m2 k) (1 + k) + time * FM.col rate (1 + k) * (FM.col (mvK rate time m2 k) 0 / FM.col rate 0))) rfl (ev_thaw (i := 5) rfl (ev_op (ev_op (ev_var (i := 5) rfl) (ev_eq (ev_op (ev_int (i := 1)) (ev_var (i := 10) rfl) op_add) (y := .int ((1 + k : Nat) : Int)) (by simp)) (op_ixL (at_nat (get_dV (by omega))))) (ev_op (ev_op (ev_var (i := 8) rfl) (ev_op (ev_op (ev_var (i := 4) rfl) (ev_var (i := 7) rfl) (op_ixL (x := dV rate) (at_nat (by rw [List.getElem?_map, ej]; rfl)))) (ev_eq (ev_op (ev_int (i := 1)) (ev_var (i := 10) rfl) op_add) (y := .int ((1 + k : Nat) : Int)) (by simp)) (op_ixL (at_nat (get_dV (by omega))))) (op_mul (wmul t7 c3 (by omega)))) (ev_op (ev_op (ev_var (i := 5) rfl) (ev_int (i := 0)) (op_ixL (i := 0) (at_nat (i := 0) (get_dV (by omega))))) (ev_var (i := 9) rfl) (op_divS r3 (Nat.lt_of_lt_of_le c0 (by decide)))) (op_mul (wmul (wide_lt t7 c3) (ediv_bd c4 r3) (by omega)))) op_add) thaw_int) (ev_eq (ev_op (ev_int (i := 1)) (ev_var (i := 10) rfl) op_add) (by simp)) (by simp; omega)), ?_⟩
    rw [← List.map_set]
    rfl
  · rw [List.length_map, List.length_range, Int.toNat_natCast, erl]
    refine run_freeze (i := 5) rfl ?_
    exact run_ret (ev_call (ea_cons (ev_var (i := 5) rfl) ea_nil) ⟨(mvJ S.n rates p draw rates.length).1, rfl, (bm _ (Nat.le_refl _)).mono (by omega), by rw [lm]; omega, rfl⟩ rfl)
end FD
end
section
set_option Elab.async false
set_option linter.all false
set_option maxRecDepth 100000
set_option maxHeartbeats 4000000
/-! the law's helpers: points -/
namespace FD
open PySem PySem.Spec PyProof.Rows L2 LamX FW FT FK
/-- pts[z % len(pts)] -/
def ptAt (pts : List (List Int)) (z : Int) : List Int := pts.getD (z % (pts.length : Nat)).toNat []
def mixM (n : Nat) (draw : Int) (pts : List (List Int)) (k : Nat) : List Int :=
  FM.primitive ((List.range (n + 1)).map fun j => (1 + draw % 3) * FM.col (ptAt pts ((k : Int) + 1 + draw)) 0 * FM.col (pts.getD k []) j + (1 + draw / 3 % 3) * FM.col (pts.getD k []) 0 * FM.col (ptAt pts ((k : Int) + 1 + draw)) j)
def goM (n : Nat) (draw : Int) (pts : List (List Int)) (row : List Int) : List Int :=
  FM.primitive ((List.range (n + 1)).map fun j => FM.col (ptAt pts draw) j + (1 + draw / 9 % 4) * FM.col (ptAt pts draw) 0 * FM.col row j)
def pointsM (n : Nat) (draw : Int) (G : FM.Gens) : List (List Int) := (G.points ++ (List.range G.points.length).map (mixM n draw G.points)) ++ (G.rays ++ G.lines).map (goM n draw G.points)
theorem ptAt_get {pts : List (List Int)} {z : Int} (h : 0 < pts.length) : atI (pts.map dV) (z % (pts.length : Nat)) = some (dV (ptAt pts z)) ∧ ptAt pts z ∈ pts := by
  have h0 := Int.emod_nonneg z (show (pts.length : Int) ≠ 0 by omega)
  have h1 := Int.emod_lt_of_pos z (show (0 : Int) < (pts.length : Int) by omega)
  have h2 : (z % (pts.length : Int)).toNat < pts.length := by omega
  unfold ptAt
  rw [List.getD_eq_getElem?_getD, List.getElem?_eq_getElem h2]
  refine ⟨at_int h0 ?_, List.getElem_mem _⟩
  rw [List.getElem?_map, List.getElem?_eq_getElem h2]; rfl
variable {P : Program} {w : World} {K : PySem.W.Frag} {mg : Str → Option Value} {base : Heap} {T : List (Addr × Str)}
theorem call_listK {X : Cx} {K : PySem.W.Frag} (hK : X.K = K) : CallR X (.type "list") (fun xs H Q => ∃ p ys, xs = [V.ref p] ∧ (SqL K H p ys ∨ SqT K H p ys) ∧ ∀ (l : Addr), H l = none → Q (V.ref l) (upd H l (HO.lst ys))) := hK ▸ call_list_of
abbrev n__law_points : List Str := ["_law_told", "_law_n", "_law_draw", "_law_points_here", "_law_found", "_law_k", "_law_other", "_law_a", "_law_b", "_law_row", "_law_point", "_law_times", "_law_j"]
theorem sc__law_points : FnScope n__law_points ["_law_told", "_law_n", "_law_draw"] (defScope (top 55)) := ⟨rfl, rfl, rfl, by decide +kernel, rfl, by decide +kernel, by decide +kernel⟩
def F_points (ds : List PyData) (r : PyData) : Prop := ∃ (G : FM.Gens) (n : Nat) (draw : Int), ds = [dGens G, .int (n : Nat), .int draw] ∧ n ≤ 100 ∧ 0 < G.points.length ∧ G.points.length ≤ 1000 ∧ (G.rays ++ G.lines).length ≤ 1000 ∧ (∀ x ∈ G.points ++ (G.rays ++ G.lines), x.length = n + 1 ∧ Bd 500 x) ∧ r = dVs (pointsM n draw G)
theorem D_points (h : Has K mg "_law_points" (top 55)) (d1 : Dn P w K mg base 1 "_law_primitive" ["_law_vector"] (SpD K T 1 F_lprim)) (m_range : mg "range" = none) (m_len : mg "len" = none) (m_list : mg "list" = none) : Dn P w K mg base 2 "_law_points" ["_law_told", "_law_n", "_law_draw"] (SpD K T 3 F_points) := by
  have nd := sc__law_points.nd
  obtain ⟨_, _, G__law_primitive, m__law_primitive, k__law_primitive, b__law_primitive⟩ := d1
  refine mkD (m := 10) h sc__law_points rfl rfl (fun _ _ _ _ _ _ us hl => match us, hl with | [_, _, _], _ => rfl) fun f cdv A outer s H E hr => ⟨_, pss_cons (ps_set (i := 3) nd rfl (Or.inr rfl) (pe_lc (own := [("_law_point", 10)]) rfl nd (pi_list (pe_ix ix_tup (pv 0) (pe_int) (fun _ _ => rfl))) (blkOk_by (own := [("_law_point", 10)]) (N := n__law_points) (sc := defScope (top 55)) (by decide +kernel)) (fun _ _ _ _ _ => pg_name (i := 10) nd rfl (Or.inl rfl)) (fun _ _ _ _ _ => pts_nil) (fun _ _ _ _ _ => pe_callTy (call_listK (K := K) rfl) (by rfl) m_list (by decide +kernel) (pa_cons (pv 10) pa_nil)))) (pss_cons (ps_set (i := 4) nd rfl (Or.inl rfl) (pe_callTy call_list_of (by rfl) m_list (by decide +kernel) (pa_cons (pv 3) pa_nil))) (pss_cons (ps_for PassesOwn.never rfl (pi_range1 (by rfl) m_range (pa_cons (pe_callB call_len_seq (by rfl) m_len PySem.boot_len (pa_cons (pv 3) pa_nil)) pa_nil)) (pg_name (i := 5) nd rfl (Or.inr rfl)) (pss_cons (ps_set (i := 6) nd rfl (Or.inr rfl) (pe_ix ix_list (pv 3) (pe_op op_mod (pe_op op_add (pe_op op_add (pv 5) (pe_int)) (pv 2)) (pe_callB call_len_seq (by rfl) m_len PySem.boot_len (pa_cons (pv 3) pa_nil))) (fun _ _ => rfl))) (pss_cons (ps_set (i := 7) nd rfl (Or.inr rfl) (pe_op op_add (pe_int) (pe_op op_mod (pv 2) (pe_int)))) (pss_cons (ps_set (i := 8) nd rfl (Or.inr rfl) (pe_op op_add (pe_int) (pe_op op_mod (pe_op op_fdivW (pv 2) (pe_int)) (pe_int)))) (pss_one (ps_expr (pe_bm PySem.F.plainAttrs_list PySem.F.slot_list_append PySem.F.type_list_append mt_append (pv 4) (pa_cons (pe_call G__law_primitive (hr.mono (by decide)) (by rfl) m__law_primitive k__law_primitive b__law_primitive .nil pass0 (pa_cons (pe_lc (own := [("_law_j", 12)]) rfl nd (pi_range1 (by rfl) m_range (pa_cons (pe_op op_add (pv 1) (pe_int)) pa_nil)) (blkOk_by (own := [("_law_j", 12)]) (N := n__law_points) (sc := defScope (top 55)) (by decide +kernel)) (fun _ _ _ _ _ => pg_name (i := 12) nd rfl (Or.inl rfl)) (fun _ _ _ _ _ => pts_nil) (fun _ _ _ _ _ => pe_op op_add (pe_op op_mulW (pe_op op_mulW (pv 7) (pe_ix (ix_listK (K := K) rfl) (pv 6) (pe_int) (fun _ _ => rfl))) (pe_ix (ix_listK (K := K) rfl) (pe_ix (ix_listK (K := K) rfl) (pv 3) (pv 5) (fun _ _ => rfl)) (pv 12) (fun _ _ => rfl))) (pe_op op_mulW (pe_op op_mulW (pv 8) (pe_ix (ix_listK (K := K) rfl) (pe_ix (ix_listK (K := K) rfl) (pv 3) (pv 5) (fun _ _ => rfl)) (pe_int) (fun _ _ => rfl))) (pe_ix (ix_listK (K := K) rfl) (pv 6) (pv 12) (fun _ _ => rfl))))) pa_nil)) pa_nil)))))))) (pss_cons (ps_for PassesOwn.never rfl (pi_list (pe_op op_cat (pe_ix ix_tup (pv 0) (pe_int) (fun _ _ => rfl)) (pe_ix ix_tup (pv 0) (pe_int) (fun _ _ => rfl)))) (pg_name (i := 9) nd rfl (Or.inr rfl)) (pss_cons (ps_set (i := 10) nd rfl (Or.inr rfl) (pe_ix ix_list (pv 3) (pe_op op_mod (pv 2) (pe_callB call_len_seq (by rfl) m_len PySem.boot_len (pa_cons (pv 3) pa_nil))) (fun _ _ => rfl))) (pss_cons (ps_set (i := 11) nd rfl (Or.inr rfl) (pe_op op_add (pe_int) (pe_op op_mod (pe_op op_fdivW (pv 2) (pe_int)) (pe_int)))) (pss_one (ps_expr (pe_bm PySem.F.plainAttrs_list PySem.F.slot_list_append PySem.F.type_list_append mt_append (pv 4) (pa_cons (pe_call G__law_primitive (hr.mono (by decide)) (by rfl) m__law_primitive k__law_primitive b__law_primitive .nil pass0 (pa_cons (pe_lc (own := [("_law_j", 12)]) rfl nd (pi_range1 (by rfl) m_range (pa_cons (pe_op op_add (pv 1) (pe_int)) pa_nil)) (blkOk_by (own := [("_law_j", 12)]) (N := n__law_points) (sc := defScope (top 55)) (by decide +kernel)) (fun _ _ _ _ _ => pg_name (i := 12) nd rfl (Or.inl rfl)) (fun _ _ _ _ _ => pts_nil) (fun _ _ _ _ _ => pe_op op_add (pe_ix (ix_listK (K := K) rfl) (pv 10) (pv 12) (fun _ _ => rfl)) (pe_op op_mulW (pe_op op_mulW (pv 11) (pe_ix (ix_listK (K := K) rfl) (pv 10) (pe_int) (fun _ _ => rfl))) (pe_ix (ix_listK (K := K) rfl) (pv 9) (pv 12) (fun _ _ => rfl))))) pa_nil)) pa_nil))))))) (pss_one (ps_ret (pv 4)))))), ?_⟩
  rintro ds r ⟨⟨pts, rays, lines⟩, n, draw, rfl, hn, hp0, hp1, hrl, hv, rfl⟩ _
  refine .inl ?_
  replace hp0 : 0 < pts.length := hp0
  replace hp1 : pts.length ≤ 1000 := hp1
  replace hrl : (rays ++ lines).length ≤ 1000 := hrl
  have hvp : ∀ x ∈ pts, x.length = n + 1 ∧ Bd 500 x := fun x hx => hv x (by simp [hx])
  have hvr : ∀ x ∈ rays ++ lines, x.length = n + 1 ∧ Bd 500 x := fun x hx => hv x (List.mem_append_right _ hx)
  have epl : (pts.map dV).length = pts.length := by simp
  have a3 : (1 + draw % 3).natAbs < 2 ^ 3 := by omega
  have b3 : (1 + draw / 3 % 3).natAbs < 2 ^ 3 := by omega
  have t3 : (1 + draw / 9 % 4).natAbs < 2 ^ 3 := by omega
  -- the copies
  refine run_seq (run_set (x := dVs pts) (ev_eq (en_map (ei_list (ev_op (ev_var (i := 0) rfl) (ev_int (i := 0)) (op_ixT (i := 0) (x := dVs pts) (at_nat (i := 0) rfl)))) (fun d => dV (unV d)) (vs := [10]) (by simp [args]) (fun x => [.d (dGens ⟨pts, rays, lines⟩), .d (.int (n : Nat)), .d (.int draw), .un, .un, .un, .un, .un, .un, .un, .d x, .un, .un]) (by simp; omega) (ws := [10]) (by simp) (fun x hx => tg_name (by simp [wipeE, args])) (fun x hx => ?_)).e ?_) (by simp [args])) ?_
  · obtain ⟨v, _, rfl⟩ := List.mem_map.mp hx
    rw [unV_dV]
    exact (en_list (ev_var (i := 10) rfl)).e
  · unfold dVs; rw [List.map_map]; congr 1; exact List.map_congr_left fun o _ => by simp
  refine run_seq (run_setN (en_list (ev_var (i := 3) rfl)) (by simp [args])) ?_
  have pidx : ∀ (env : En) (te : TE) (z : Int), env[3]? = some (.d (dVs pts)) → EvE K T te env (.int z) → EvE K T (tOp (rIxL K) (tVar 3) (tOp (rI (fun _ j => 0 < j) fun i j => .int (i % j)) te (tCB (fun vs H Q => ∃ p ys, vs = [.ref p] ∧ (SqL K H p ys ∨ SqT K H p ys) ∧ Q (.int ys.length) H) (tCons (tVar 3) tNil)))) env (dV (ptAt pts z)) := fun env te z h3 hz => by
    have e := ev_len (ev_var (K := K) (T := T) h3)
    rw [epl] at e
    exact ev_op (ev_var h3) (ev_op hz e (op_modI (by omega))) (op_ixL (ptAt_get hp0).1)
  refine run_seq (run_forN (ei_range1 (n := ((pts.map dV).length : Nat)) (ea_cons (ev_len (ev_var (i := 3) rfl)) ea_nil) (by simp; omega) (by omega)) (fun k => [.d (dGens ⟨pts, rays, lines⟩), .d (.int (n : Nat)), .d (.int draw), .d (dVs pts), .own ((pts ++ (List.range k).map (mixM n draw pts)).map dV), .un, .un, .un, .un, .un, .un, .un, .un]) (by simp [args]) (fun i => by simp) (fun k x hx => ?_)) ?_
  · obtain ⟨hk, rfl⟩ := range_item0 hx
    rw [Int.toNat_natCast, epl] at hk
    have ek : pts[k]? = some (pts.getD k []) := by rw [List.getD_eq_getElem?_getD, List.getElem?_eq_getElem hk]; rfl
    have e1 : pts ++ (List.range (k + 1)).map (mixM n draw pts) = (pts ++ (List.range k).map (mixM n draw pts)) ++ [mixM n draw pts k] := by rw [List.range_succ, List.map_append, ← List.append_assoc]; rfl
    have al : (pts ++ (List.range k).map (mixM n draw pts)).length ≤ 2000 := by simp; omega
    rw [e1]
    generalize pts ++ (List.range k).map (mixM n draw pts) = acc at al ⊢
    obtain ⟨g1, g2⟩ := ptAt_get (pts := pts) (z := (k : Int) + 1 + draw) hp0
    unfold mixM
    obtain ⟨lo, bo⟩ := hvp _ g2
    obtain ⟨lk, bk⟩ := hvp _ (List.mem_of_getElem? ek)
    have oth : ∀ (env : En), env[3]? = some (.d (dVs pts)) → env[5]? = some (.d (.int (k : Nat))) → env[2]? = some (.d (.int draw)) → EvE K T _ env (dV (ptAt pts ((k : Int) + 1 + draw))) := fun env h3 h5 h2 => pidx env _ _ h3 (ev_op (ev_op (ev_var h5) (ev_int (i := 1)) op_add) (ev_var h2) op_add)
    generalize hoe : ptAt pts ((k : Int) + 1 + draw) = o at g1 lo bo oth ⊢
    generalize hpe : pts.getD k [] = pk at ek lk bk ⊢
    refine (?_ : ∃ y6 y7 y8, Run K T _ _ (.nx [.d (dGens ⟨pts, rays, lines⟩), .d (.int (n : Nat)), .d (.int draw), .d (dVs pts), .own ((acc ++ [FM.primitive ((List.range (n + 1)).map fun j => (1 + draw % 3) * FM.col o 0 * FM.col pk j + (1 + draw / 3 % 3) * FM.col pk 0 * FM.col o j)]).map dV), .d (.int (k : Nat)), y6, y7, y8, .un, .un, .un, .un])).elim fun y6 h => h.elim fun y7 h => h.elim fun y8 h => ⟨_, .inl (run_endF 6 (run_endF 7 (run_endF 8 h))), rfl⟩
    refine ⟨.d (dV o), .d (.int (1 + draw % 3)), .d (.int (1 + draw / 3 % 3)), ?_⟩
    refine run_seq (run_set (oth _ rfl rfl rfl) (by simp)) ?_
    refine run_seq (run_set (ev_op (ev_int (i := 1)) (ev_op (ev_var (i := 2) rfl) (ev_int (i := 3)) (op_modI (by decide))) op_add) (by simp)) ?_
    refine run_seq (run_set (ev_op (ev_int (i := 1)) (ev_op (ev_op (ev_var (i := 2) rfl) (ev_int (i := 3)) (op_divS (by decide) (by decide))) (ev_int (i := 3)) (op_modI (by decide))) op_add) (by simp)) ?_
    generalize (1 + draw % 3) = a at a3 ⊢
    generalize (1 + draw / 3 % 3) = b at b3 ⊢
    have co0 := col_bd bo (c := 0) (by omega)
    have ck0 := col_bd bk (c := 0) (by omega)
    refine run_eq (run_app (i := 4) (x := dV (FM.primitive ((List.range (n + 1)).map fun j => a * FM.col o 0 * FM.col pk j + b * FM.col pk 0 * FM.col o j))) rfl (ev_call (ea_cons (ev_eq (en_map (ei_range1 (n := ((n : Nat) : Int) + 1) (ea_cons (ev_op (ev_var (i := 1) rfl) (ev_int (i := 1)) op_add) ea_nil) (by omega) (by omega)) (fun d => .int (a * FM.col o 0 * FM.col pk (unI d).toNat + b * FM.col pk 0 * FM.col o (unI d).toNat)) (vs := [12]) (by simp) (fun x => [.d (dGens ⟨pts, rays, lines⟩), .d (.int (n : Nat)), .d (.int draw), .d (dVs pts), .own (acc.map dV), .d (.int (k : Nat)), .d (dV o), .d (.int a), .d (.int b), .un, .un, .un, .d x]) (by simp; omega) (ws := [12]) (by simp) (fun x hx => ?_) (fun x hx => ?_)).e ?_) ea_nil) ⟨(List.range (n + 1)).map fun j => a * FM.col o 0 * FM.col pk j + b * FM.col pk 0 * FM.col o j, rfl, ?_, by simp; omega, rfl⟩ rfl) (by simp; omega)) ?_
    · exact tg_name (i := 12) (by simp [wipeE])
    · obtain ⟨j, hj, rfl⟩ := List.mem_map.mp hx
      rw [List.mem_range] at hj
      have hj' : j < n + 1 := by omega
      simp only [unI, Int.toNat_natCast]
      have ckj := col_bd bk (c := j) (by omega)
      have coj := col_bd bo (c := j) (by omega)
      refine ev_op (ev_op (ev_op (ev_var (i := 7) rfl) (ev_op (ev_var (i := 6) rfl) (ev_int (i := 0)) (op_ixL (i := 0) (at_nat (i := 0) (get_dV (by omega))))) (op_mul (wmul a3 co0 (by omega)))) (ev_op (ev_op (ev_var (i := 3) rfl) (ev_var (i := 5) rfl) (op_ixL (x := dV pk) (at_nat (by rw [List.getElem?_map, ek]; rfl)))) (ev_var (i := 12) rfl) (op_ixL (at_nat (get_dV (by omega))))) (op_mul (wmul (wide_lt a3 co0) ckj (by omega))))
        (ev_op (ev_op (ev_var (i := 8) rfl) (ev_op (ev_op (ev_var (i := 3) rfl) (ev_var (i := 5) rfl) (op_ixL (x := dV pk) (at_nat (by rw [List.getElem?_map, ek]; rfl)))) (ev_int (i := 0)) (op_ixL (i := 0) (at_nat (i := 0) (get_dV (by omega))))) (op_mul (wmul b3 ck0 (by omega)))) (ev_op (ev_var (i := 6) rfl) (ev_var (i := 12) rfl) (op_ixL (at_nat (get_dV (by omega))))) (op_mul (wmul (wide_lt b3 ck0) coj (by omega)))) op_add
    · unfold dV; rw [List.map_map, List.map_map]
      have : (((n : Nat) : Int) + 1).toNat = n + 1 := by omega
      rw [this]; congr 1
    · intro z hz
      obtain ⟨j, hj, rfl⟩ := List.mem_map.mp hz
      rw [List.mem_range] at hj
      have ckj := col_bd bk (c := j) (by omega)
      have coj := col_bd bo (c := j) (by omega)
      have m1 := wide_lt (wide_lt a3 co0) ckj
      have m2 := wide_lt (wide_lt b3 ck0) coj
      have p1 : 2 ^ (3 + 500 + 500) + 2 ^ (3 + 500 + 500) = 2 ^ 1004 := by rw [← Nat.two_mul, ← Nat.pow_succ']
      have p2 : 2 ^ 1004 ≤ 2 ^ 1800 := Nat.pow_le_pow_right (by decide) (by decide)
      show (a * FM.col o 0 * FM.col pk j + b * FM.col pk 0 * FM.col o j).natAbs < _
      omega
    · simp
  rw [List.length_map, List.length_range, Int.toNat_natCast, epl]
  unfold pointsM
  simp only
  have al0 : (pts ++ (List.range pts.length).map (mixM n draw pts)).length ≤ 2000 := by simp; omega
  generalize pts ++ (List.range pts.length).map (mixM n draw pts) = pre at al0 ⊢
  have eit : EvE K T (tOp rCat (tOp (rIxT K) (tVar 0) (tC (.int 1))) (tOp (rIxT K) (tVar 0) (tC (.int 2)))) [.d (dGens ⟨pts, rays, lines⟩), .d (.int (n : Nat)), .d (.int draw), .d (dVs pts), .own (pre.map dV), .un, .un, .un, .un, .un, .un, .un, .un] (dVs (rays ++ lines)) :=
    ev_eq (en_cat (ev_op (ev_var (i := 0) rfl) (ev_int (i := 1)) (op_ixT (i := 1) (x := dVs rays) (at_nat (i := 1) rfl))) (ev_op (ev_var (i := 0) rfl) (ev_int (i := 2)) (op_ixT (i := 2) (x := dVs lines) (at_nat (i := 2) rfl))) (by rw [List.length_append] at hrl; simp; omega)).e (by unfold dVs; rw [List.map_append])
  refine run_seq (run_forN (j := 9) (ei_list eit) (fun k => [.d (dGens ⟨pts, rays, lines⟩), .d (.int (n : Nat)), .d (.int draw), .d (dVs pts), .own ((pre ++ ((rays ++ lines).take k).map (goM n draw pts)).map dV), .un, .un, .un, .un, .un, .un, .un, .un]) (by simp) (fun i => by simp) (fun k x hx => ?_)) ?_
  · obtain ⟨row, hrow, rfl⟩ := get_dVs hx
    have hk := (List.getElem?_eq_some_iff.mp hrow).1
    obtain ⟨lw, bw⟩ := hvr _ (List.mem_of_getElem? hrow)
    have e1 : pre ++ ((rays ++ lines).take (k + 1)).map (goM n draw pts) = (pre ++ ((rays ++ lines).take k).map (goM n draw pts)) ++ [goM n draw pts row] := by rw [List.take_add_one, hrow, List.map_append, ← List.append_assoc]; rfl
    have al : (pre ++ ((rays ++ lines).take k).map (goM n draw pts)).length ≤ 4000 := by rw [List.length_append, List.length_map, List.length_take]; omega
    rw [e1]
    generalize pre ++ ((rays ++ lines).take k).map (goM n draw pts) = acc at al ⊢
    obtain ⟨g1, g2⟩ := ptAt_get (pts := pts) (z := draw) hp0
    unfold goM
    obtain ⟨lo, bo⟩ := hvp _ g2
    have oth : ∀ (env : En), env[3]? = some (.d (dVs pts)) → env[2]? = some (.d (.int draw)) → EvE K T _ env (dV (ptAt pts draw)) := fun env h3 h2 => pidx env _ _ h3 (ev_var h2)
    generalize ptAt pts draw = o at g1 lo bo oth ⊢
    refine (?_ : ∃ y10 y11, Run K T _ _ (.nx [.d (dGens ⟨pts, rays, lines⟩), .d (.int (n : Nat)), .d (.int draw), .d (dVs pts), .own ((acc ++ [FM.primitive ((List.range (n + 1)).map fun j => FM.col o j + (1 + draw / 9 % 4) * FM.col o 0 * FM.col row j)]).map dV), .un, .un, .un, .un, .d (dV row), y10, y11, .un])).elim fun y10 h => h.elim fun y11 h => ⟨_, .inl (run_endF 10 (run_endF 11 h)), rfl⟩
    refine ⟨.d (dV o), .d (.int (1 + draw / 9 % 4)), ?_⟩
    refine run_seq (run_set (oth _ rfl rfl) (by simp)) ?_
    refine run_seq (run_set (ev_op (ev_int (i := 1)) (ev_op (ev_op (ev_var (i := 2) rfl) (ev_int (i := 9)) (op_divS (by decide) (by decide))) (ev_int (i := 4)) (op_modI (by decide))) op_add) (by simp)) ?_
    generalize (1 + draw / 9 % 4) = a at t3 ⊢
    have co0 := col_bd bo (c := 0) (by omega)
    refine run_eq (run_app (i := 4) (x := dV (FM.primitive ((List.range (n + 1)).map fun j => FM.col o j + a * FM.col o 0 * FM.col row j))) rfl (ev_call (ea_cons (ev_eq (en_map (ei_range1 (n := ((n : Nat) : Int) + 1) (ea_cons (ev_op (ev_var (i := 1) rfl) (ev_int (i := 1)) op_add) ea_nil) (by omega) (by omega)) (fun d => .int (FM.col o (unI d).toNat + a * FM.col o 0 * FM.col row (unI d).toNat)) (vs := [12]) (by simp) (fun x => [.d (dGens ⟨pts, rays, lines⟩), .d (.int (n : Nat)), .d (.int draw), .d (dVs pts), .own (acc.map dV), .un, .un, .un, .un, .d (dV row), .d (dV o), .d (.int a), .d x]) (by simp; omega) (ws := [12]) (by simp) (fun x hx => ?_) (fun x hx => ?_)).e ?_) ea_nil) ⟨(List.range (n + 1)).map fun j => FM.col o j + a * FM.col o 0 * FM.col row j, rfl, ?_, by simp; omega, rfl⟩ rfl) (by simp; omega)) ?_
    · exact tg_name (i := 12) (by simp [wipeE])
    · obtain ⟨j, hj, rfl⟩ := List.mem_map.mp hx
      rw [List.mem_range] at hj
      have hj' : j < n + 1 := by omega
      simp only [unI, Int.toNat_natCast]
      have crj := col_bd bw (c := j) (by omega)
      exact ev_op (ev_op (ev_var (i := 10) rfl) (ev_var (i := 12) rfl) (op_ixL (at_nat (get_dV (by omega))))) (ev_op (ev_op (ev_var (i := 11) rfl) (ev_op (ev_var (i := 10) rfl) (ev_int (i := 0)) (op_ixL (i := 0) (at_nat (i := 0) (get_dV (by omega))))) (op_mul (wmul t3 co0 (by omega)))) (ev_op (ev_var (i := 9) rfl) (ev_var (i := 12) rfl) (op_ixL (at_nat (get_dV (by omega))))) (op_mul (wmul (wide_lt t3 co0) crj (by omega)))) op_add
    · unfold dV; rw [List.map_map, List.map_map]
      have : (((n : Nat) : Int) + 1).toNat = n + 1 := by omega
      rw [this]; congr 1
    · intro z hz
      obtain ⟨j, hj, rfl⟩ := List.mem_map.mp hz
      rw [List.mem_range] at hj
      have coj := col_bd bo (c := j) (by omega)
      have crj := col_bd bw (c := j) (by omega)
      have m1 := wide_lt (wide_lt t3 co0) crj
      have p0 : 2 ^ 500 ≤ 2 ^ (3 + 500 + 500) := Nat.pow_le_pow_right (by decide) (by decide)
      have p1 : 2 ^ (3 + 500 + 500) + 2 ^ (3 + 500 + 500) = 2 ^ 1004 := by rw [← Nat.two_mul, ← Nat.pow_succ']
      have p2 : 2 ^ 1004 ≤ 2 ^ 1800 := Nat.pow_le_pow_right (by decide) (by decide)
      show (FM.col o j + a * FM.col o 0 * FM.col row j).natAbs < _
      omega
    · simp
  · rw [List.length_map, List.take_length]
    exact run_freeze (i := 4) rfl (run_ret (ev_var (i := 4) rfl))
end FD
end
section
set_option Elab.async false
set_option linter.all false
set_option maxRecDepth 100000
set_option maxHeartbeats 4000000
/-! the law's helpers: system -/
namespace FD
open PySem PySem.Spec PyProof.Rows L2 LamX FW FT FK
def sysN (s : List Int) : Nat := (1 + FM.col s 0 % 2).toNat
def sysF (s : List Int) : Nat := if sysN s = 2 then (FM.col s 1 % 2).toNat else 0
def sysC (s : List Int) : Nat := (1 + FM.col s 2 % 2).toNat
def startM (s d : List Int) (k : Nat) : PyData := .tuple [.int ((FM.col s 5 + (k : Int)) % (sysC s : Nat)), dOpt (FM.polyhedron (sysN s) (boxM d (18 + 2 * k) (sysN s)) [])]
def sysM (s d : List Int) : Sys := ⟨sysN s, .int (sysF s : Nat), (List.range (sysC s)).map fun k => locM d (6 * k) (sysN s) (sysF s), .list ((List.range (FM.col s 3 % 3).toNat).map fun k => jumpM d (10 + 3 * k) (sysN s) (sysF s) (sysC s : Nat)), .list ((List.range (1 + FM.col s 4 % 2).toNat).map (startM s d))⟩
variable {P : Program} {w : World} {K : PySem.W.Frag} {mg : Str → Option Value} {base : Heap} {T : List (Addr × Str)}
abbrev n__law_system : List Str := ["_law_first", "_law_second", "_law_parameter", "_law_sizes", "_law_draws", "_law_n", "_law_fixed", "_law_count", "_law_locations", "_law_jumps", "_law_starts", "_law_k"]
theorem sc__law_system : FnScope n__law_system ["_law_first", "_law_second", "_law_parameter"] (defScope (top 54)) := ⟨rfl, rfl, rfl, by decide +kernel, rfl, by decide +kernel, by decide +kernel⟩
theorem et_truB {te : TE} {env : En} {b : Bool} (h : EvE K T te env (.bool b)) : EvT K T (tB te) env b := et_B h
def F_system (ds : List PyData) (r : PyData) : Prop := ∃ (a b : Nat), ds = [.int (a : Nat), .int (b : Nat), .bool false] ∧ (∀ n k : Nat, (n = 1 ∨ n = 2) → k < 2 → PolyOk n (boxM (digits b 27720 24) (18 + 2 * k) n) []) ∧ r = dSys (sysM (digits a 2520 8) (digits b 27720 24))
theorem D_system (h : Has K mg "_law_system" (top 54)) (d1 : Dn P w K mg base 1 "_law_digits" ["_law_cell_here", "_law_base", "_law_most"] (SpD K T 3 F_digits)) (d2 : Dn P w K mg base 2 "_law_location" ["_law_draws", "_law_at", "_law_n", "_law_fixed"] (SpD K T 4 F_location)) (d3 : Dn P w K mg base 2 "_law_jump" ["_law_draws", "_law_at", "_law_n", "_law_fixed", "_law_count"] (SpD K T 5 F_jump)) (d4 : Dn P w K mg base 2 "_law_box" ["_law_draws", "_law_at", "_law_n"] (SpD K T 3 F_box)) (d5 : DnD P w K mg base 13 "polyhedron" ["n", "conditions", "equations"] (SpD K T 3 F_polyhedron) 1) (m_range : mg "range" = none) : Dn P w K mg base 14 "_law_system" ["_law_first", "_law_second", "_law_parameter"] (SpD K T 3 F_system) := by
  have nd := sc__law_system.nd
  obtain ⟨_, _, G__law_digits, m__law_digits, k__law_digits, b__law_digits⟩ := d1
  obtain ⟨_, _, G__law_location, m__law_location, k__law_location, b__law_location⟩ := d2
  obtain ⟨_, _, G__law_jump, m__law_jump, k__law_jump, b__law_jump⟩ := d3
  obtain ⟨_, _, G__law_box, m__law_box, k__law_box, b__law_box⟩ := d4
  obtain ⟨_, _, G_polyhedron, m_polyhedron, k_polyhedron, _, dvs, dsv, rd_polyhedron, bd_polyhedron, hda⟩ := d5
  refine mkD (m := 9) h sc__law_system rfl rfl (fun _ _ _ _ _ _ us hl => match us, hl with | [_, _, _], _ => rfl) fun f cdv A outer s H E hr => ⟨_, pss_cons (ps_set (i := 3) nd rfl (Or.inl rfl) (pe_call G__law_digits (hr.mono (by decide)) (by rfl) m__law_digits k__law_digits b__law_digits .nil pass0 (pa_cons (pv 0) (pa_cons (pe_int) (pa_cons (pe_int) pa_nil))))) (pss_cons (ps_set (i := 4) nd rfl (Or.inr rfl) (pe_call G__law_digits (hr.mono (by decide)) (by rfl) m__law_digits k__law_digits b__law_digits .nil pass0 (pa_cons (pv 1) (pa_cons (pe_int) (pa_cons (pe_int) pa_nil))))) (pss_cons (ps_set (i := 5) nd rfl (Or.inr rfl) (pe_op op_add (pe_int) (pe_op op_mod (pe_ix ix_list (pv 3) (pe_int) (fun _ _ => rfl)) (pe_int)))) (pss_cons (ps_set (i := 6) nd rfl (Or.inr rfl) (pe_int)) (pss_cons (ps_if (pt_cmpR op_eq (pv 5) (pe_int) (nomark _)) (pss_one (ps_set (i := 6) nd rfl (Or.inr rfl) (pe_op op_mod (pe_ix ix_list (pv 3) (pe_int) (fun _ _ => rfl)) (pe_int)))) (pss_nil)) (pss_cons (ps_if (pt_val (pv 2)) (pss_cons (ps_set (i := 5) nd rfl (Or.inr rfl) (pe_int)) (pss_one (ps_set (i := 6) nd rfl (Or.inr rfl) (pe_int)))) (pss_nil)) (pss_cons (ps_set (i := 7) nd rfl (Or.inr rfl) (pe_op op_add (pe_int) (pe_op op_mod (pe_ix ix_list (pv 3) (pe_int) (fun _ _ => rfl)) (pe_int)))) (pss_cons (ps_setLc (i := 8) (own := [("_law_k", 11)]) rfl nd rfl rfl (sw_true rfl rfl rfl (by decide +kernel)) (pi_range1 (by rfl) m_range (pa_cons (pv 7) pa_nil)) (blkOk_by (own := [("_law_k", 11)]) (N := n__law_system) (sc := defScope (top 54)) (by decide +kernel)) (fun _ _ _ _ _ => pg_name (i := 11) nd rfl (Or.inl rfl)) (fun _ _ _ _ _ => pts_nil) (fun _ _ _ _ _ => pe_call G__law_location (hr.mono (by decide)) (by rfl) m__law_location k__law_location b__law_location .nil pass0 (pa_cons (pv 4) (pa_cons (pe_op op_mulW (pe_int) (pv 11)) (pa_cons (pv 5) (pa_cons (pv 6) pa_nil)))))) (pss_cons (ps_setLc (i := 9) (own := [("_law_k", 11)]) rfl nd rfl rfl (sw_true rfl rfl rfl (by decide +kernel)) (pi_range1 (by rfl) m_range (pa_cons (pe_op op_mod (pe_ix ix_list (pv 3) (pe_int) (fun _ _ => rfl)) (pe_int)) pa_nil)) (blkOk_by (own := [("_law_k", 11)]) (N := n__law_system) (sc := defScope (top 54)) (by decide +kernel)) (fun _ _ _ _ _ => pg_name (i := 11) nd rfl (Or.inl rfl)) (fun _ _ _ _ _ => pts_nil) (fun _ _ _ _ _ => pe_call G__law_jump (hr.mono (by decide)) (by rfl) m__law_jump k__law_jump b__law_jump .nil pass0 (pa_cons (pv 4) (pa_cons (pe_op op_add (pe_int) (pe_op op_mulW (pe_int) (pv 11))) (pa_cons (pv 5) (pa_cons (pv 6) (pa_cons (pv 7) pa_nil))))))) (pss_cons (ps_set (i := 10) nd rfl (Or.inl rfl) (pe_lst pa_nil)) (pss_cons (ps_for PassesOwn.never rfl (pi_range1 (by rfl) m_range (pa_cons (pe_op op_add (pe_int) (pe_op op_mod (pe_ix ix_list (pv 3) (pe_int) (fun _ _ => rfl)) (pe_int))) pa_nil)) (pg_name (i := 11) nd rfl (Or.inl rfl)) (pss_one (ps_expr (pe_bm PySem.F.plainAttrs_list PySem.F.slot_list_append PySem.F.type_list_append mt_append (pv 10) (pa_cons (pe_tup (pa_cons (pe_op op_mod (pe_op op_add (pe_ix ix_list (pv 3) (pe_int) (fun _ _ => rfl)) (pv 11)) (pv 7)) (pa_cons (pe_call G_polyhedron (hr.mono (by decide)) (by rfl) m_polyhedron k_polyhedron bd_polyhedron rd_polyhedron pass0 (pa_cons (pv 5) (pa_cons (pe_call G__law_box (hr.mono (by decide)) (by rfl) m__law_box k__law_box b__law_box .nil pass0 (pa_cons (pv 4) (pa_cons (pe_op op_add (pe_int) (pe_op op_mulW (pe_int) (pv 11))) (pa_cons (pv 5) pa_nil)))) pa_nil))) pa_nil))) pa_nil))))) (pss_one (ps_ret (pe_tup (pa_cons (pv 5) (pa_cons (pv 6) (pa_cons (pv 8) (pa_cons (pv 9) (pa_cons (pv 10) pa_nil)))))))))))))))))), ?_⟩
  rintro ds r ⟨a, b, rfl, pok, rfl⟩ _
  refine .inl ?_
  refine run_seq (run_set (ev_call (ea_cons (ev_var (i := 0) rfl) (ea_cons (ev_int (i := 2520)) (ea_cons (ev_int (i := 8)) ea_nil))) ⟨a, 2520, 8, rfl, by decide, by decide, by decide, rfl⟩ rfl) (by simp [args])) ?_
  refine run_seq (run_set (ev_call (ea_cons (ev_var (i := 1) rfl) (ea_cons (ev_int (i := 27720)) (ea_cons (ev_int (i := 24)) ea_nil))) ⟨b, 27720, 24, rfl, by decide, by decide, by decide, rfl⟩ rfl) (by simp [args])) ?_
  have sl : (digits a 2520 8).length = 8 := digits_len _ _ _
  have dl : (digits b 27720 24).length = 24 := digits_len _ _ _
  have dn : ∀ x ∈ digits b 27720 24, 0 ≤ x := fun x hx => (digits_bd (by decide) _ x hx).1
  generalize digits a 2520 8 = z at sl ⊢
  generalize digits b 27720 24 = d at dl dn pok ⊢
  have gz : ∀ (env : En) (i : Nat), env[3]? = some (.d (dV z)) → i < 8 → EvE K T (tOp (rIxL K) (tVar 3) (tC (.int (i : Nat)))) env (.int (FM.col z i)) := fun env i h hi => ev_op (ev_var h) (ev_int (i := (i : Nat))) (op_ixL (at_nat (get_dV (by omega))))
  have hn : (sysN z : Int) = 1 + FM.col z 0 % 2 := by unfold sysN; omega
  have hn12 : sysN z = 1 ∨ sysN z = 2 := by unfold sysN; omega
  have hc : (sysC z : Int) = 1 + FM.col z 2 % 2 := by unfold sysC; omega
  have hc2 : 0 < sysC z ∧ sysC z ≤ 2 := by unfold sysC; omega
  have hf : sysF z ≤ sysN z ∧ (sysN z = 1 → sysF z = 0) := by unfold sysF; split <;> omega
  refine run_seq (run_set (x := .int (sysN z : Nat)) (ev_eq (ev_op (ev_int (i := 1)) (ev_op (gz _ 0 rfl (by decide)) (ev_int (i := 2)) (op_modI (by decide))) op_add) (by rw [hn])) (by simp [args])) ?_
  refine run_seq (run_set (ev_int (i := 0)) (by simp [args])) ?_
  refine run_seq (env' := [.d (.int (a : Nat)), .d (.int (b : Nat)), .d (.bool false), .d (dV z), .d (dV d), .d (.int (sysN z : Nat)), .d (.int (sysF z : Nat)), .un, .un, .un, .un, .un]) ?_ ?_
  · refine run_if (et_test (ev_op (ev_var (i := 5) rfl) (ev_int (i := 2)) op_eqI)) (fun q => ?_) (fun q => ?_)
    · have q' : sysN z = 2 := by have := of_decide_eq_true q; omega
      refine run_eq (run_set (x := .int (sysF z : Nat)) (ev_eq (ev_op (gz _ 1 rfl (by decide)) (ev_int (i := 2)) (op_modI (by decide))) (by unfold sysF; rw [if_pos q']; congr 1; omega)) (by simp [args])) ?_
      rfl
    · have q' : ¬ sysN z = 2 := by have := of_decide_eq_false q; omega
      refine run_eq run_next ?_
      unfold sysF; rw [if_neg q']; rfl
  refine run_seq (run_if (et_truB (ev_var (i := 2) rfl)) (fun q => by cases q) (fun _ => run_next)) ?_
  refine run_seq (run_set (x := .int (sysC z : Nat)) (ev_eq (ev_op (ev_int (i := 1)) (ev_op (gz _ 2 rfl (by decide)) (ev_int (i := 2)) (op_modI (by decide))) op_add) (by rw [hc])) (by simp [args])) ?_
  unfold sysM
  have st : startM z d = fun k : Nat => .tuple [.int ((FM.col z 5 + (k : Int)) % (sysC z : Nat)), dOpt (FM.polyhedron (sysN z) (boxM d (18 + 2 * k) (sysN z)) [])] := rfl
  rw [st]
  clear st
  generalize sysN z = n at hn hn12 hf ⊢
  generalize sysC z = c at hc hc2 ⊢
  generalize sysF z = fx at hf ⊢
  have en : ∀ (env : En) (k m e : Nat), env[11]? = some (.d (.int (k : Nat))) → e < 100 → k < 100 → EvE K T (tOp (rI CMulW fun i j => .int (i * j)) (tC (.int (e : Nat))) (tVar 11)) env (.int ((e * k : Nat) : Int)) := fun env k m e h he hk => ev_eq (ev_op (ev_int (i := (e : Nat))) (ev_var h) (op_mulS (Nat.lt_of_lt_of_le (show _ < 10000 by omega) (by decide)) (Nat.lt_of_lt_of_le (show _ < 10000 by omega) (by decide)))) (by simp)
  refine run_seq (run_set (x := .list ((List.range c).map fun k => dLoc (locM d (6 * k) n fx))) (ev_eq (en_map (ei_range1 (n := ((c : Nat) : Int)) (ea_cons (ev_var (i := 7) rfl) ea_nil) (by omega) (by omega)) (fun x => dLoc (locM d (6 * (unI x).toNat) n fx)) (vs := [11]) (by simp [args]) (fun x => [.d (.int (a : Nat)), .d (.int (b : Nat)), .d (.bool false), .d (dV z), .d (dV d), .d (.int (n : Nat)), .d (.int (fx : Nat)), .d (.int (c : Nat)), .un, .un, .un, .d x]) (by simp; omega) (ws := [11]) (by simp) (fun x hx => tg_name (by simp [wipeE, args])) (fun x hx => ?_)).e ?_) (by simp [args])) ?_
  · obtain ⟨k, hk, rfl⟩ := List.mem_map.mp hx
    rw [List.mem_range, Int.toNat_natCast] at hk
    simp only [unI, Int.toNat_natCast]
    exact ev_call (ea_cons (ev_var (i := 4) rfl) (ea_cons (en _ k 0 6 rfl (by decide) (by omega)) (ea_cons (ev_var (i := 5) rfl) (ea_cons (ev_var (i := 6) rfl) ea_nil)))) ⟨d, 6 * k, n, fx, rfl, by omega, dn, by omega, hf.1, rfl⟩ rfl
  · rw [List.map_map, Int.toNat_natCast]; rfl
  refine run_seq (run_set (x := .list ((List.range (FM.col z 3 % 3).toNat).map fun k => jumpM d (10 + 3 * k) n fx (c : Nat))) (ev_eq (en_map (ei_range1 (n := FM.col z 3 % 3) (ea_cons (ev_op (gz _ 3 rfl (by decide)) (ev_int (i := 3)) (op_modI (by decide))) ea_nil) (by omega) (by omega)) (fun x => jumpM d (10 + 3 * (unI x).toNat) n fx (c : Nat)) (vs := [11]) (by simp [args]) (fun x => [.d (.int (a : Nat)), .d (.int (b : Nat)), .d (.bool false), .d (dV z), .d (dV d), .d (.int (n : Nat)), .d (.int (fx : Nat)), .d (.int (c : Nat)), .d (.list ((List.range c).map fun k => dLoc (locM d (6 * k) n fx))), .un, .un, .d x]) (by simp; omega) (ws := [11]) (by simp) (fun x hx => tg_name (by simp [wipeE, args])) (fun x hx => ?_)).e ?_) (by simp [args])) ?_
  · obtain ⟨k, hk, rfl⟩ := List.mem_map.mp hx
    rw [List.mem_range] at hk
    simp only [unI, Int.toNat_natCast]
    exact ev_call (ea_cons (ev_var (i := 4) rfl) (ea_cons (ev_eq (ev_op (ev_int (i := 10)) (en _ k 0 3 rfl (by decide) (by omega)) op_add) (y := .int ((10 + 3 * k : Nat) : Int)) (by simp)) (ea_cons (ev_var (i := 5) rfl) (ea_cons (ev_var (i := 6) rfl) (ea_cons (ev_var (i := 7) rfl) ea_nil))))) ⟨d, 10 + 3 * k, n, fx, c, rfl, by omega, by omega, by omega, hf.1, hc2.1, rfl⟩ rfl
  · rw [List.map_map]; rfl
  generalize hL : ((List.range c).map fun k => dLoc (locM d (6 * k) n fx)) = L
  generalize hJ : PyData.list ((List.range (FM.col z 3 % 3).toNat).map fun k => jumpM d (10 + 3 * k) n fx (c : Nat)) = J
  refine run_seq (run_setN (en_lst ea_nil (by simp)) (by simp [args])) ?_
  have ext : ∀ k : Nat, List.range (k + 1) = List.range k ++ [k] := fun k => List.range_succ
  refine run_seq (run_forN (ei_range1 (n := 1 + FM.col z 4 % 2) (ea_cons (ev_op (ev_int (i := 1)) (ev_op (gz _ 4 rfl (by decide)) (ev_int (i := 2)) (op_modI (by decide))) op_add) ea_nil) (by omega) (by omega)) (fun i => [.d (.int (a : Nat)), .d (.int (b : Nat)), .d (.bool false), .d (dV z), .d (dV d), .d (.int (n : Nat)), .d (.int (fx : Nat)), .d (.int (c : Nat)), .d (.list L), .d J, .own ((List.range i).map fun k : Nat => PyData.tuple [.int ((FM.col z 5 + (k : Int)) % (c : Nat)), dOpt (FM.polyhedron n (boxM d (18 + 2 * k) n) [])]), .un]) rfl (fun i => by simp) (fun i x hx => ?_)) ?_
  · obtain ⟨hi, rfl⟩ := range_item0 hx
    have hi2 : i < 2 := by omega
    rw [ext, List.map_append]
    have al : ((List.range i).map fun k : Nat => PyData.tuple [.int ((FM.col z 5 + (k : Int)) % (c : Nat)), dOpt (FM.polyhedron n (boxM d (18 + 2 * k) n) [])]).length = i := by simp
    generalize ((List.range i).map fun k : Nat => PyData.tuple [.int ((FM.col z 5 + (k : Int)) % (c : Nat)), dOpt (FM.polyhedron n (boxM d (18 + 2 * k) n) [])]) = acc at al ⊢
    refine ⟨_, .inl (run_app (i := 10) rfl (ev_tup (ea_cons (ev_op (ev_op (gz _ 5 rfl (by decide)) (ev_var (i := 11) rfl) op_add) (ev_var (i := 7) rfl) (op_modI (by omega))) (ea_cons (ev_callD (es := List.replicate 1 (.tuple [])) (ea_cons (ev_var (i := 5) rfl) (ea_cons (ev_call (ea_cons (ev_var (i := 4) rfl) (ea_cons (ev_eq (ev_op (ev_int (i := 18)) (en _ i 0 2 rfl (by decide) (by omega)) op_add) (y := .int ((18 + 2 * i : Nat) : Int)) (by simp)) (ea_cons (ev_var (i := 5) rfl) ea_nil))) ⟨d, 18 + 2 * i, n, rfl, by omega, by omega, rfl⟩ rfl) ea_nil)) ⟨n, boxM d (18 + 2 * i) n, [], .tuple [], rfl, .unit, pok n i hn12 hi2, rfl⟩ rfl hda) ea_nil)) (by simp)) (by omega)), rfl⟩
  rw [List.length_map, List.length_range]
  refine run_freeze (i := 10) rfl ?_
  refine run_eq (run_ret (ev_tup (ea_cons (ev_var (i := 5) rfl) (ea_cons (ev_var (i := 6) rfl) (ea_cons (ev_var (i := 8) rfl) (ea_cons (ev_var (i := 9) rfl) (ea_cons (ev_var (i := 10) rfl) ea_nil))))) (by simp))) ?_
  subst hL hJ
  unfold dSys
  simp only [List.map_map]
  rfl
end FD
end
section
set_option Elab.async false
set_option linter.all false
set_option maxRecDepth 100000
set_option maxHeartbeats 4000000
/-! the script is a locked list: the defs that read it, by their readings -/
namespace FD
open PySem PySem.Spec PyProof.Rows L2 LamX FW FT FK
variable {P : Program} {w : World} {K : PySem.W.Frag} {mg : Str → Option Value} {base : Heap} {T : List (Addr × Str)}
/-- a def with a promise by values -/
theorem mkF {x : Str} {st : Stmt} {N ps : List Str} {k : Nat} {sp : Sp} {f : Addr} {fd : FuncData} (h : FunD K x x (defArgs st) (defBody st) (defScope st) [] [] f fd) (S : FnScope N ps (defScope st)) (len : ∀ vs H Q E, sp vs H Q E → vs.length = ps.length)
    (body : ∀ (f : Addr) (cdv : Value) (A : Around) (outer : List Env) (s : Shared) (H : Hp) (E : XK), Room k (A.deeper (envOfC x (defScope st) s.heap.objs.size f cdv)) →
      ∃ t, PSs (cxOf CX0 P w K mg base N x (defScope st) f cdv A outer s H E).nox (defBody st) t ∧ ∀ vs Q, sp vs H Q E → t { nx := fun _ H' => Q .non H', rt := Q } (L2.start N vs) H) :
    FnOk P w K mg base CX0 (k + 1) f fd ps sp := by
  refine h.ok S len (fun cdv A outer s H vs Q E hr h => ?_)
  obtain ⟨t, ht, hrun⟩ := body f cdv A outer s H E hr
  exact ⟨t, ht.nox, hrun vs Q h⟩
/-- the cell k of the script -/
def SpCell (K : PySem.W.Frag) : Sp := fun vs H Q _ => ∃ (a : Addr) (ns : List Int) (k : Nat), vs = [.ref a, .int (k : Nat)] ∧ SqL K H a (ns.map V.int) ∧ Q (.int (cellM ns k : Nat)) H
theorem abs_nat (z : Int) : (if z < 0 then -z else z) = (z.natAbs : Nat) := by split <;> omega

theorem D_cellS (h : Has K mg "_law_cell" (top 45)) (m_len : mg "len" = none) (m_abs : mg "abs" = none) (m_int : mg "int" = none) : Dn P w K mg base 1 "_law_cell" ["_law_script", "_law_k"] (SpCell K) := by
  have nd := sc__law_cell.nd
  obtain ⟨f0, fd0, Fd, hm⟩ := h
  refine ⟨f0, fd0, ?_, hm, Fd.kp, Fd.bindsN (fun _ _ _ _ _ _ us hl => match us, hl with | [_, _], _ => rfl)⟩
  refine mkF Fd sc__law_cell (fun vs H Q E h => ?_) fun f cdv A outer s H E hr => ⟨_, pss_cons (ps_if (pt_cmpR op_lt (pv 1) (pe_callB call_len_seq (by rfl) m_len PySem.boot_len (pa_cons (pv 0) pa_nil)) (nomark _)) (pss_one (ps_ret (pe_callB call_abs (by rfl) m_abs (by decide +kernel) (pa_cons (pe_callTy call_int1 (by rfl) m_int (by decide +kernel) (pa_cons (pe_ix ix_list (pv 0) (pv 1) (fun _ _ => rfl)) pa_nil)) pa_nil)))) (pss_nil)) (pss_one (ps_ret (pe_int))), ?_⟩
  · obtain ⟨a, ns, k, rfl, _⟩ := h
    rfl
  rintro vs Q ⟨a, ns, k, rfl, hS, hQ⟩
  refine ⟨.int (k : Nat), rfl, .ref a, rfl, a, ns.map V.int, rfl, Or.inl hS, (k : Nat), ((ns.map V.int).length : Nat), rfl, rfl, decide ((k : Int) < ((ns.map V.int).length : Nat)), rfl, ?_⟩
  rw [List.length_map]
  unfold cellM at hQ
  by_cases hk : k < ns.length
  · rw [if_pos hk] at hQ
    rw [if_pos (by simpa using hk)]
    refine ⟨.ref a, rfl, .int (k : Nat), rfl, a, ns.map V.int, (k : Nat), .int (FM.col ns k), rfl, rfl, hS, at_nat (by rw [List.getElem?_map, List.getElem?_eq_getElem hk, FM.col_get hk]; rfl), Or.inl ⟨_, rfl, FM.col ns k, rfl, ?_⟩⟩
    rw [abs_nat]
    exact hQ
  · rw [if_neg hk] at hQ
    rw [if_neg (by simpa using hk)]
    exact hQ
section
variable {ta : TA} {te : TE} {t u : TS} {D : Ends} {σ : L2.St} {H : Hp}
theorem raw_seq (h : t { D with nx := u D } σ H) : tSeq t u D σ H := h
theorem raw_asg {i : Nat} (h : te σ H fun v H' => D.nx (σ.set i (some v)) H') : tAsg te (gName i) D σ H := h
theorem raw_step {i : Nat} (h : te σ H fun v H' => u D (σ.set i (some v)) H') : tSeq (tAsg te (gName i)) u D σ H := h
theorem raw_cons {Q : List V → Hp → Prop} (h : te σ H fun x H1 => ta σ H1 fun xs H2 => Q (x :: xs) H2) : tCons te ta σ H Q := h
theorem raw_call {sp : Sp} {dvs : List V} {E : XK} {Q : VK} (h : ta σ H fun vs H1 => sp (vs ++ dvs) H1 Q E) : tCall sp dvs E ta σ H Q := h
theorem raw_cell {a : Addr} {ns : List Int} {E : XK} {Q : VK} (k : Nat) (h0 : σ[0]? = some (some (.ref a))) (hS : SqL K H a (ns.map V.int)) (q : Q (.int (cellM ns k : Nat)) H) : tCall (SpCell K) [] E (tCons (tVar 0) (tCons (tC (.int (k : Nat))) tNil)) σ H Q := ⟨.ref a, h0, a, ns, k, rfl, hS, q⟩
end
theorem sql_ext {H H' : Hp} {a : Addr} {xs : List V} (e : ExtN H H') (h : SqL K H a xs) : SqL K H' a xs := by
  rcases h with (h | ⟨o, h⟩) | h
  · exact .inl (.inl (e _ _ h fun ps z => by cases z))
  · exact .inl (.inr ⟨o, e _ _ h fun ps z => by cases z⟩)
  · exact .inr h
end FD
end
section
set_option Elab.async false
set_option linter.all false
set_option maxRecDepth 100000
set_option maxHeartbeats 4000000
/-! law -/
namespace FD
open PySem PySem.Spec PyProof.Rows L2 LamX FW FT FK
variable {P : Program} {w : World} {K : PySem.W.Frag} {mg : Str → Option Value} {base : Heap} {T : List (Addr × Str)}
theorem sta_none {m : Nat} {σ : L2.St} {H : Hp} (t : Tabs T H) (hl : σ.length = m) : Sta K T (fun _ => False) (fun _ => False) H (fun _ => False) (List.replicate m .un) σ H where
  gw := fun b o h _ _ => h
  mu := fun _ h => h.elim
  tb := t
  sub := fun _ h => h
  av := fun _ h => h.elim
  len := by simp [hl]
  dat := fun i x hi => by rw [List.getElem?_replicate] at hi; split at hi <;> cases hi
  own := fun i x hi => by rw [List.getElem?_replicate] at hi; split at hi <;> cases hi
  dis := fun i j xs ys l hi => by rw [List.getElem?_replicate] at hi; split at hi <;> cases hi
  obj := fun i C fd w hi => by rw [List.getElem?_replicate] at hi; split at hi <;> cases hi
theorem run_raw {t : TS} {D : Ends} {Mu Av0 Av : Avs} {H0 H : Hp} {env : En} {σ : L2.St} {x : PyData} (S : Sta K T Mu Av0 H0 Av env σ H) (r : Run K T t env (.ret x)) (g : ∀ v H', DA K Av0 H' v x → D.rt v H') : t D σ H := r _ _ _ _ _ _ _ S fun v H' _ _ d _ => g v H' d
abbrev n_law : List Str := ["_law_script", "_law_system_here", "_law_n", "_law_draws", "_law_location_here", "_law_invariant", "_law_region", "_law_ahead", "_law_point", "_law_other", "_law_back", "_law_common"]
theorem sc_law : FnScope n_law ["_law_script"] (defScope (top 59)) := ⟨rfl, rfl, rfl, by decide +kernel, rfl, by decide +kernel, by decide +kernel⟩
theorem en_take {te : TE} {env : En} {xs : List (List Int)} {z : Int} {th : TE} (h : EvE K T te env (dVs xs)) (h1 : EvE K T th env (.int z)) (h0 : 0 ≤ z) : EvE K T (tSl (rSlL K) te tNoPart (tPart th)) env (dVs (xs.take z.toNat)) := by
  have e : z = (z.toNat : Int) := by omega
  rw [e] at h1
  refine ev_eq (en_slice h eo_none (eo_some h1)).e ?_
  rw [HT.sIx_none, HT.sIx_nat, List.length_map, List.drop_zero, Nat.sub_zero]
  unfold dVs
  rw [← List.map_take]
  congr 2
  rcases Nat.le_total z.toNat xs.length with c | c
  · rw [Nat.min_eq_left c]
  · rw [Nat.min_eq_right c, List.take_of_length_le (Nat.le_refl _), List.take_of_length_le c]
theorem shaped_poly3 (n : Nat) (E F : List (List Int)) : SeqAt.shaped (.tuple [.int (n : Nat), dVs E, dVs F]) = true := by
  unfold SeqAt.shaped
  have h1 : PyData.canLay0 (.tuple [.int (n : Nat), dVs E, dVs F]) = true := by
    show (PyData.canLay0 (.int (n : Nat)) && (PyData.canLayAll0 (E.map dV) && (PyData.canLayAll0 (F.map dV) && PyData.canLayAll0 []))) = true
    rw [lay_dVsL, lay_dVsL]; rfl
  have h2 : PyData.depth (.tuple [.int (n : Nat), dVs E, dVs F]) ≤ 3 := by
    show max (PyData.depth (.int (n : Nat))) (max (PyData.depth (dVs E)) (max (PyData.depth (dVs F)) 0)) + 1 ≤ 3
    have e1 := depth_dVs E
    have e2 := depth_dVs F
    have : PyData.depth (.int (n : Nat)) = 0 := rfl
    omega
  rw [h1, decide_eq_true (by omega)]; rfl
theorem shaped_poly (P : FM.Poly) : SeqAt.shaped (dPoly P) = true := shaped_poly3 P.1 P.2.1 P.2.2
theorem eqv_poly (P : FM.Poly) : PyData.eqv (dPoly P) (dPoly P) = true := by
  obtain ⟨n, E, F⟩ := P
  show (PyData.eqv (.int (n : Nat)) (.int (n : Nat)) && (PyData.eqv (dVs E) (dVs E) && (PyData.eqv (dVs F) (dVs F) && true))) = true
  rw [eqv_dVs, eqv_dVs]
  have : PyData.eqv (.int (n : Nat)) (.int (n : Nat)) = true := by first | rfl | simp [PyData.eqv]
  rw [this]; simp
/-- what holds at a point of the first loop -/
structure StepOk (S : Sys) (l : Loc) (d : List Int) (A : Option FM.Poly) (p : List Int) : Prop where
  len : p.length = S.n + 1
  bd : Bd 1000 p
  go : holdsB l.1 p = true → ∃ Q, A = some Q ∧ FM.hasPoint Q p = true ∧ (movedM S.n l.2 p (FM.col d 11)).length = S.n + 1 ∧ Bd 2000 (movedM S.n l.2 p (FM.col d 11)) ∧ (holdsB l.1 (movedM S.n l.2 p (FM.col d 11)) = true → WaitOk S l p (movedM S.n l.2 p (FM.col d 11)) ∧ FM.hasPoint (reach S l p) (movedM S.n l.2 p (FM.col d 11)) = true ∧ FM.hasPoint Q (movedM S.n l.2 p (FM.col d 11)) = true ∧ Sm S.n 50 [movedM S.n l.2 p (FM.col d 11)] ∧ StrOk S.n l.1 (FM.spanned S.n [movedM S.n l.2 p (FM.col d 11)] [] []) (FM.negs (dirsOf l.2)) ∧ ∃ B, FM.stretched S.n l.1 (FM.spanned S.n [movedM S.n l.2 p (FM.col d 11)] [] []) (FM.negs (dirsOf l.2)) = some B ∧ FM.hasPoint B p = true ∧ Sm S.n 100 B.2.1 ∧ Sm S.n 100 B.2.2)
/-- what holds at a point of the second loop -/
structure BackOk (S : Sys) (l : Loc) (R : FM.Poly) (q : List Int) : Prop where
  sm : Sm S.n 50 [q]
  str : StrOk S.n l.1 (FM.spanned S.n [q] [] []) (FM.negs (dirsOf l.2))
  go : ∃ B C p, FM.stretched S.n l.1 (FM.spanned S.n [q] [] []) (FM.negs (dirsOf l.2)) = some B ∧ PolyOk R.1 (R.2.2 ++ B.2.2) (R.2.1 ++ B.2.1) ∧ FM.meet R B = some C ∧ C.1 = S.n ∧ Sm S.n 90 C.2.1 ∧ Sm S.n 90 C.2.2 ∧ (FM.generators C).points[0]? = some p ∧ Bd 2000 p ∧ Bd 2000 q ∧ holdsB l.1 p = true ∧ holdsB l.1 q = true ∧ WaitOk S l p q ∧ FM.hasPoint (reach S l p) q = true
structure PtsOk (n : Nat) (P : FM.Poly) : Prop where
  en : P.1 = n
  eqs : Sm n 90 P.2.1
  fac : Sm n 90 P.2.2
  ne : 0 < (FM.generators P).points.length
  cnt : (FM.generators P).points.length ≤ 1000
  rl : ((FM.generators P).rays ++ (FM.generators P).lines).length ≤ 1000
  sz : ∀ x ∈ (FM.generators P).points ++ ((FM.generators P).rays ++ (FM.generators P).lines), x.length = n + 1 ∧ Bd 500 x
/-- all that the walk of law needs: the plain law is to show this for every script -/
structure LawOk (ns : List Int) (S : Sys) (d : List Int) (i : Nat) (l : Loc) (R : FM.Poly) (A : Option FM.Poly) : Prop where
  sys : S = sysM (digits (cellM ns 0) 2520 8) (digits (cellM ns 1) 27720 24)
  dr : d = digits (cellM ns 2) 27720 12
  boxes : ∀ n k : Nat, (n = 1 ∨ n = 2) → k < 2 → PolyOk n (boxM (digits (cellM ns 1) 27720 24) (18 + 2 * k) n) []
  n12 : S.n = 1 ∨ S.n = 2
  ne : 0 < S.locs.length
  loc : FM.col d 8 % (S.locs.length : Nat) = (i : Nat)
  hl : S.locs[i]? = some l
  lok : LocOk l
  rates : (∀ r ∈ l.2, r.length = S.n + 1 ∧ Bd 10 r ∧ 0 < FM.col r 0) ∧ l.2.length ≤ 10
  inv : ∀ c ∈ l.1, Bd 400000 c ∧ c.length = S.n + 1
  regok : PolyOk S.n ((boxM d 0 S.n).take (1 + FM.col d 9 % 4).toNat) []
  reg : FM.polyhedron S.n ((boxM d 0 S.n).take (1 + FM.col d 9 % 4).toNat) [] = some R
  str : StrOk S.n l.1 R (dirsOf l.2)
  ahead : FM.stretched S.n l.1 R (dirsOf l.2) = A
  pts : PtsOk S.n R
  steps : ∀ p ∈ (pointsM S.n (FM.col d 10) (FM.generators R)).take 6, StepOk S l d A p
  again : ∀ Q, A = some Q → Sm S.n 90 Q.2.1 ∧ Sm S.n 90 Q.2.2 ∧ StrOk S.n l.1 Q (dirsOf l.2) ∧ FM.stretched S.n l.1 Q (dirsOf l.2) = some Q ∧ PtsOk S.n Q ∧ ∀ q ∈ (pointsM S.n (FM.col d 11) (FM.generators Q)).take 4, BackOk S l R q
/-- law's promise: the script is a list that is read -/
def SpLaw (K : PySem.W.Frag) (T : List (Addr × Str)) : Sp := fun vs H Q _ => ∃ (a : Addr) (ns : List Int) (S : Sys) (d : List Int) (i : Nat) (l : Loc) (R : FM.Poly) (A : Option FM.Poly), vs = [.ref a] ∧ SqL K H a (ns.map V.int) ∧ Tabs T H ∧ LawOk ns S d i l R A ∧ ∀ H', Q (.bl true) H'
theorem D_law {f0 : Addr} {fd0 : FuncData} (h : FunD K "law" "law" (defArgs (top 59)) (defBody (top 59)) (defScope (top 59)) [] [] f0 fd0) (d1 : Dn P w K mg base 1 "_law_cell" ["_law_script", "_law_k"] (SpCell K)) (d2 : Dn P w K mg base 1 "_law_digits" ["_law_cell_here", "_law_base", "_law_most"] (SpD K T 3 F_digits)) (d3 : Dn P w K mg base 14 "_law_system" ["_law_first", "_law_second", "_law_parameter"] (SpD K T 3 F_system)) (d4 : Dn P w K mg base 2 "_law_box" ["_law_draws", "_law_at", "_law_n"] (SpD K T 3 F_box)) (d5 : DnD P w K mg base 13 "polyhedron" ["n", "conditions", "equations"] (SpD K T 3 F_polyhedron) 1)
  (d6 : Dn P w K mg base 17 "wait_forward" ["system", "location", "region"] (SpD K T 3 F_forward)) (d7 : Dn P w K mg base 17 "wait_backward" ["system", "location", "region"] (SpD K T 3 F_backward)) (d8 : Dn P w K mg base 2 "_law_points" ["_law_told", "_law_n", "_law_draw"] (SpD K T 3 F_points)) (d9 : Dn P w K mg base 12 "generators" ["region"] (SpD K T 1 F_generators)) (d10 : Dn P w K mg base 2 "_law_holds" ["_law_conditions", "_law_point"] (SpD K T 2 F_lholds)) (d11 : Dn P w K mg base 2 "has_point" ["region", "point"] (SpD K T 2 F_has_point)) (d12 : Dn P w K mg base 2 "_law_moved" ["_law_system_here", "_law_location_here", "_law_point", "_law_draw"] (SpD K T 4 F_moved)) (d13 : Dn P w K mg base 17 "_law_waits" ["_law_system_here", "_law_location_here", "_law_point", "_law_other"] (SpD K T 4 F_waits)) (d14 : DnD P w K mg base 13 "spanned" ["n", "points", "rays", "lines"] (SpD K T 4 F_spanned) 2) (d15 : Dn P w K mg base 14 "meet" ["region", "other"] (SpD K T 2 F_meet)) (m_len : mg "len" = none) : FnOk P w K mg base CX0 18 f0 fd0 ["_law_script"] (SpLaw K T) := by
  have nd := sc_law.nd
  obtain ⟨_, _, G__law_cell, m__law_cell, k__law_cell, b__law_cell⟩ := d1
  obtain ⟨_, _, G__law_digits, m__law_digits, k__law_digits, b__law_digits⟩ := d2
  obtain ⟨_, _, G__law_system, m__law_system, k__law_system, b__law_system⟩ := d3
  obtain ⟨_, _, G__law_box, m__law_box, k__law_box, b__law_box⟩ := d4
  obtain ⟨_, _, G_polyhedron, m_polyhedron, k_polyhedron, _, dvs, dsv, rd_polyhedron, bd_polyhedron, hda⟩ := d5
  obtain ⟨_, _, G_wait_forward, m_wait_forward, k_wait_forward, b_wait_forward⟩ := d6
  obtain ⟨_, _, G_wait_backward, m_wait_backward, k_wait_backward, b_wait_backward⟩ := d7
  obtain ⟨_, _, G__law_points, m__law_points, k__law_points, b__law_points⟩ := d8
  obtain ⟨_, _, G_generators, m_generators, k_generators, b_generators⟩ := d9
  obtain ⟨_, _, G__law_holds, m__law_holds, k__law_holds, b__law_holds⟩ := d10
  obtain ⟨_, _, G_has_point, m_has_point, k_has_point, b_has_point⟩ := d11
  obtain ⟨_, _, G__law_moved, m__law_moved, k__law_moved, b__law_moved⟩ := d12
  obtain ⟨_, _, G__law_waits, m__law_waits, k__law_waits, b__law_waits⟩ := d13
  obtain ⟨_, _, G_spanned, m_spanned, k_spanned, _, dvs2, dsv2, rd_spanned, bd_spanned, hda2⟩ := d14
  obtain ⟨_, _, G_meet, m_meet, k_meet, b_meet⟩ := d15
  refine mkF h sc_law (fun vs H Q E h => ?_) fun f cdv A outer s H E hr => ⟨_, pss_cons (ps_set (i := 1) nd rfl (Or.inl rfl) (pe_call G__law_system (hr.mono (by decide)) (by rfl) m__law_system k__law_system b__law_system .nil pass0 (pa_cons (pe_call G__law_cell (hr.mono (by decide)) (by rfl) m__law_cell k__law_cell b__law_cell .nil pass0 (pa_cons (pv 0) (pa_cons (pe_int) pa_nil))) (pa_cons (pe_call G__law_cell (hr.mono (by decide)) (by rfl) m__law_cell k__law_cell b__law_cell .nil pass0 (pa_cons (pv 0) (pa_cons (pe_int) pa_nil))) (pa_cons (pe_bl) pa_nil))))) (pss_cons (ps_set (i := 2) nd rfl (Or.inl rfl) (pe_ix ix_tup (pv 1) (pe_int) (fun _ _ => rfl))) (pss_cons (ps_set (i := 3) nd rfl (Or.inl rfl) (pe_call G__law_digits (hr.mono (by decide)) (by rfl) m__law_digits k__law_digits b__law_digits .nil pass0 (pa_cons (pe_call G__law_cell (hr.mono (by decide)) (by rfl) m__law_cell k__law_cell b__law_cell .nil pass0 (pa_cons (pv 0) (pa_cons (pe_int) pa_nil))) (pa_cons (pe_int) (pa_cons (pe_int) pa_nil))))) (pss_cons (ps_set (i := 4) nd rfl (Or.inl rfl) (pe_op op_mod (pe_ix ix_list (pv 3) (pe_int) (fun _ _ => rfl)) (pe_callB call_len_seq (by rfl) m_len PySem.boot_len (pa_cons (pe_ix ix_tup (pv 1) (pe_int) (fun _ _ => rfl)) pa_nil)))) (pss_cons (ps_set (i := 5) nd rfl (Or.inl rfl) (pe_ix ix_tup (pe_ix ix_list (pe_ix ix_tup (pv 1) (pe_int) (fun _ _ => rfl)) (pv 4) (fun _ _ => rfl)) (pe_int) (fun _ _ => rfl))) (pss_cons (ps_set (i := 6) nd rfl (Or.inl rfl) (pe_call G_polyhedron (hr.mono (by decide)) (by rfl) m_polyhedron k_polyhedron bd_polyhedron rd_polyhedron pass0 (pa_cons (pv 2) (pa_cons (pe_slice sl_list (pe_call G__law_box (hr.mono (by decide)) (by rfl) m__law_box k__law_box b__law_box .nil pass0 (pa_cons (pv 3) (pa_cons (pe_int) (pa_cons (pv 2) pa_nil)))) po_none (po_some (pe_op op_add (pe_int) (pe_op op_mod (pe_ix ix_list (pv 3) (pe_int) (fun _ _ => rfl)) (pe_int))))) pa_nil)))) (pss_cons (ps_set (i := 7) nd rfl (Or.inl rfl) (pe_call G_wait_forward (hr.mono (by decide)) (by rfl) m_wait_forward k_wait_forward b_wait_forward .nil pass0 (pa_cons (pv 1) (pa_cons (pv 4) (pa_cons (pv 6) pa_nil))))) (pss_cons (ps_for PassesOwn.never rfl (pi_list (pe_slice sl_list (pe_call G__law_points (hr.mono (by decide)) (by rfl) m__law_points k__law_points b__law_points .nil pass0 (pa_cons (pe_call G_generators (hr.mono (by decide)) (by rfl) m_generators k_generators b_generators .nil pass0 (pa_cons (pv 6) pa_nil)) (pa_cons (pv 2) (pa_cons (pe_ix ix_list (pv 3) (pe_int) (fun _ _ => rfl)) pa_nil)))) po_none (po_some (pe_int)))) (pg_name (i := 8) nd rfl (Or.inl rfl)) (pss_cons (ps_if (pt_not (pt_val (pe_call G__law_holds (hr.mono (by decide)) (by rfl) m__law_holds k__law_holds b__law_holds .nil pass0 (pa_cons (pv 5) (pa_cons (pv 8) pa_nil))))) (pss_one (ps_continue)) (pss_nil)) (pss_cons (ps_if (PW.pt (pw_or (pt_cmp (pc_isN (pv 7)) rfl) (pw_or1 (pt_not (pt_val (pe_call G_has_point (hr.mono (by decide)) (by rfl) m_has_point k_has_point b_has_point .nil pass0 (pa_cons (pv 7) (pa_cons (pv 8) pa_nil)))))))) (pss_one (ps_ret (pe_bl))) (pss_nil)) (pss_cons (ps_set (i := 9) nd rfl (Or.inl rfl) (pe_call G__law_moved (hr.mono (by decide)) (by rfl) m__law_moved k__law_moved b__law_moved .nil pass0 (pa_cons (pv 1) (pa_cons (pv 4) (pa_cons (pv 8) (pa_cons (pe_ix ix_list (pv 3) (pe_int) (fun _ _ => rfl)) pa_nil)))))) (pss_cons (ps_if (pt_not (pt_val (pe_call G__law_holds (hr.mono (by decide)) (by rfl) m__law_holds k__law_holds b__law_holds .nil pass0 (pa_cons (pv 5) (pa_cons (pv 9) pa_nil))))) (pss_cons (ps_if (pt_val (pe_call G__law_waits (hr.mono (by decide)) (by rfl) m__law_waits k__law_waits b__law_waits .nil pass0 (pa_cons (pv 1) (pa_cons (pv 4) (pa_cons (pv 8) (pa_cons (pv 9) pa_nil)))))) (pss_one (ps_ret (pe_bl))) (pss_nil)) (pss_one (ps_continue))) (pss_nil)) (pss_cons (ps_if (PW.pt (pw_or (pt_not (pt_val (pe_call G_has_point (hr.mono (by decide)) (by rfl) m_has_point k_has_point b_has_point .nil pass0 (pa_cons (pv 7) (pa_cons (pv 9) pa_nil))))) (pw_or1 (pt_not (pt_val (pe_call G__law_waits (hr.mono (by decide)) (by rfl) m__law_waits k__law_waits b__law_waits .nil pass0 (pa_cons (pv 1) (pa_cons (pv 4) (pa_cons (pv 8) (pa_cons (pv 9) pa_nil)))))))))) (pss_one (ps_ret (pe_bl))) (pss_nil)) (pss_cons (ps_set (i := 10) nd rfl (Or.inl rfl) (pe_call G_wait_backward (hr.mono (by decide)) (by rfl) m_wait_backward k_wait_backward b_wait_backward .nil pass0 (pa_cons (pv 1) (pa_cons (pv 4) (pa_cons (pe_call G_spanned (hr.mono (by decide)) (by rfl) m_spanned k_spanned bd_spanned rd_spanned pass0 (pa_cons (pv 2) (pa_cons (pe_lst (pa_cons (pv 9) pa_nil)) pa_nil))) pa_nil))))) (pss_one (ps_if (PW.pt (pw_or (pt_cmp (pc_isN (pv 10)) rfl) (pw_or1 (pt_not (pt_val (pe_call G_has_point (hr.mono (by decide)) (by rfl) m_has_point k_has_point b_has_point .nil pass0 (pa_cons (pv 10) (pa_cons (pv 8) pa_nil)))))))) (pss_one (ps_ret (pe_bl))) (pss_nil)))))))))) (pss_cons (ps_if (pt_cmp (pc_isN (pv 7)) rfl) (pss_one (ps_ret (pe_bl))) (pss_nil)) (pss_cons (ps_if (pt_cmpR (op_neD (hu64 hr)) (pe_call G_wait_forward (hr.mono (by decide)) (by rfl) m_wait_forward k_wait_forward b_wait_forward .nil pass0 (pa_cons (pv 1) (pa_cons (pv 4) (pa_cons (pv 7) pa_nil)))) (pv 7) (nomark _)) (pss_one (ps_ret (pe_bl))) (pss_nil)) (pss_cons (ps_for PassesOwn.never rfl (pi_list (pe_slice sl_list (pe_call G__law_points (hr.mono (by decide)) (by rfl) m__law_points k__law_points b__law_points .nil pass0 (pa_cons (pe_call G_generators (hr.mono (by decide)) (by rfl) m_generators k_generators b_generators .nil pass0 (pa_cons (pv 7) pa_nil)) (pa_cons (pv 2) (pa_cons (pe_ix ix_list (pv 3) (pe_int) (fun _ _ => rfl)) pa_nil)))) po_none (po_some (pe_int)))) (pg_name (i := 9) nd rfl (Or.inl rfl)) (pss_cons (ps_set (i := 11) nd rfl (Or.inl rfl) (pe_call G_meet (hr.mono (by decide)) (by rfl) m_meet k_meet b_meet .nil pass0 (pa_cons (pv 6) (pa_cons (pe_call G_wait_backward (hr.mono (by decide)) (by rfl) m_wait_backward k_wait_backward b_wait_backward .nil pass0 (pa_cons (pv 1) (pa_cons (pv 4) (pa_cons (pe_call G_spanned (hr.mono (by decide)) (by rfl) m_spanned k_spanned bd_spanned rd_spanned pass0 (pa_cons (pv 2) (pa_cons (pe_lst (pa_cons (pv 9) pa_nil)) pa_nil))) pa_nil)))) pa_nil)))) (pss_one (ps_if (PW.pt (pw_or (pt_cmp (pc_isN (pv 11)) rfl) (pw_or1 (pt_not (pt_val (pe_call G__law_waits (hr.mono (by decide)) (by rfl) m__law_waits k__law_waits b__law_waits .nil pass0 (pa_cons (pv 1) (pa_cons (pv 4) (pa_cons (pe_ix ix_list (pe_ix ix_tup (pe_call G_generators (hr.mono (by decide)) (by rfl) m_generators k_generators b_generators .nil pass0 (pa_cons (pv 11) pa_nil)) (pe_int) (fun _ _ => rfl)) (pe_int) (fun _ _ => rfl)) (pa_cons (pv 9) pa_nil)))))))))) (pss_one (ps_ret (pe_bl))) (pss_nil))))) (pss_one (ps_ret (pe_bl))))))))))))), ?_⟩
  · obtain ⟨a, ns, S, d, i, l, R, A, rfl, _⟩ := h
    rfl
  rintro vs Q ⟨a, ns, S, d, i, l, R, A, rfl, hS, ht, ok, hQ⟩
  -- the system
  refine raw_step (raw_call (raw_cons (raw_cell 0 rfl hS (raw_cons (raw_cell 1 rfl hS ?_)))))
  refine ⟨fun _ => False, [.int (cellM ns 0 : Nat), .int (cellM ns 1 : Nat), .bool false], dSys S, ⟨cellM ns 0, cellM ns 1, rfl, ok.boxes, by rw [ok.sys]⟩, rfl, ht, fun _ z => z.elim, .cons (.int _) (.cons (.int _) (.cons (.bl _) .nil)), fun v1 H1 e1 t1 d1 => ?_⟩
  have S1 : Sta K T (fun _ => False) (fun _ => False) H1 (fun _ => False) [.un, .d (dSys S), .un, .un, .un, .un, .un, .un, .un, .un, .un, .un] ((L2.start n_law [.ref a]).set 1 (some v1)) H1 := (sta_none (m := 12) t1 rfl).set (i := 1) d1 (by simp)
  -- the number of variables
  refine raw_step ?_
  refine (ev_op (ev_var (i := 1) rfl) (ev_int (i := 0)) (op_ixT (i := 0) (x := .int (S.n : Nat)) (at_nat (i := 0) rfl)) : EvE K T _ _ _) _ _ _ _ _ _ S1 _ fun v2 H2 e2 t2 d2 => ?_
  have S2 := (S1.grow e2 t2).set (i := 2) d2 (by simp)
  have hS2 := sql_ext (e1.trans e2) hS
  -- the draws
  refine raw_step (raw_call (raw_cons (raw_cell 2 rfl hS2 ?_)))
  refine ⟨fun _ => False, [.int (cellM ns 2 : Nat), .int 27720, .int (12 : Nat)], dV d, ⟨cellM ns 2, 27720, 12, rfl, by decide, by decide, by decide, by rw [ok.dr]⟩, rfl, t2, fun _ z => z.elim, .cons (.int _) (.cons (.int _) (.cons (.int _) .nil)), fun v3 H3 e3 t3 d3 => ?_⟩
  have S3 := (S2.grow e3 t3).set (i := 3) d3 (by simp)
  show tSeq _ _ _ _ _
  refine run_raw S3 (x := .bool true) ?_ fun v H' d4 => ?_
  rotate_left
  · cases d4
    exact hQ H'
  have dl : d.length = 12 := by rw [ok.dr]; exact digits_len _ _ _
  have gz : ∀ (env : En) (i : Nat), env[3]? = some (.d (dV d)) → i < 12 → EvE K T (tOp (rIxL K) (tVar 3) (tC (.int (i : Nat)))) env (.int (FM.col d i)) := fun env i h hi => ev_op (ev_var h) (ev_int (i := (i : Nat))) (op_ixL (at_nat (get_dV (by omega))))
  have locs : ∀ (env : En), env[1]? = some (.d (dSys S)) → EvE K T (tOp (rIxT K) (tVar 1) (tC (.int 2))) env (.list (S.locs.map dLoc)) := fun env h => ev_op (ev_var h) (ev_int (i := 2)) (op_ixT (i := 2) (at_nat (i := 2) rfl))
  refine run_seq (run_set (x := .int (i : Nat)) (ev_eq (ev_op (gz _ 8 rfl (by decide)) (ev_len (locs _ rfl)) (op_modI (by have := ok.ne; simp; omega))) (by rw [List.length_map, ok.loc])) (by simp [args])) ?_
  have hl' : (S.locs.map dLoc)[i]? = some (dLoc l) := by rw [List.getElem?_map, ok.hl]; rfl
  refine run_seq (run_set (x := dVs l.1) (ev_op (ev_op (locs _ rfl) (ev_var (i := 4) rfl) (op_ixL (at_nat hl'))) (ev_int (i := 0)) (op_ixT (i := 0) (at_nat (i := 0) rfl))) (by simp [args])) ?_
  refine run_seq (run_set (x := dPoly R) (ev_eq (ev_callD (es := List.replicate 1 (.tuple [])) (ea_cons (ev_var (i := 2) rfl) (ea_cons (en_take (z := 1 + FM.col d 9 % 4) (ev_call (ea_cons (ev_var (i := 3) rfl) (ea_cons (ev_int (i := (0 : Nat))) (ea_cons (ev_var (i := 2) rfl) ea_nil))) ⟨d, 0, S.n, rfl, by omega, by have := ok.n12; omega, rfl⟩ rfl) (ev_op (ev_int (i := 1)) (ev_op (gz _ 9 rfl (by decide)) (ev_int (i := 4)) (op_modI (by decide))) op_add) (by omega)) ea_nil)) ⟨S.n, (boxM d 0 S.n).take (1 + FM.col d 9 % 4).toNat, [], .tuple [], rfl, .unit, ok.regok, rfl⟩ rfl hda) (by rw [ok.reg]; rfl)) (by simp [args])) ?_
  refine run_seq (run_set (x := dOpt A) (ev_eq (ev_call (ea_cons (ev_var (i := 1) rfl) (ea_cons (ev_var (i := 4) rfl) (ea_cons (ev_var (i := 6) rfl) ea_nil))) ⟨S, i, l, R, rfl, ok.hl, ok.lok.rates, ok.lok.rcnt, ok.str, rfl⟩ rfl) (by rw [ok.ahead])) (by simp [args])) ?_
  have genR : ∀ (env : En), env[6]? = some (.d (dPoly R)) → EvE K T (tCall (SpD K T 1 F_generators) [] E0 (tCons (tVar 6) tNil)) env (dGens (FM.generators R)) := fun env h => ev_call (ea_cons (ev_var (i := 6) h) ea_nil) ⟨S.n, R, rfl, ok.pts.en, ok.n12, ok.pts.eqs, ok.pts.fac, rfl⟩ rfl
  have holds : ∀ (env : En) (j : Nat) (p : List Int), env[5]? = some (.d (dVs l.1)) → env[j]? = some (.d (dV p)) → p.length = S.n + 1 → Bd 2000 p → EvT K T (tB (tCall (SpD K T 2 F_lholds) [] E0 (tCons (tVar 5) (tCons (tVar j) tNil)))) env (holdsB l.1 p) := fun env j p h5 hj hl hb => et_B (ev_call (ea_cons (ev_var h5) (ea_cons (ev_var hj) ea_nil)) ⟨l.1, p, rfl, fun c hc => ⟨(ok.inv c hc).1, by rw [(ok.inv c hc).2, hl]⟩, fun x hx => Nat.lt_of_lt_of_le (hb x hx) (Nat.pow_le_pow_right (by decide) (by decide)), by have := ok.n12; omega, rfl⟩ rfl)
  have has : ∀ (env : En) (a j : Nat) (P : FM.Poly) (p : List Int), env[a]? = some (.d (dPoly P)) → env[j]? = some (.d (dV p)) → Sm S.n 100 P.2.1 → Sm S.n 100 P.2.2 → Bd 2000 p → EvT K T (tB (tCall (SpD K T 2 F_has_point) [] E0 (tCons (tVar a) (tCons (tVar j) tNil)))) env (FM.hasPoint P p) := fun env a j P p ha hj h1 h2 hb => et_B (ev_call (ea_cons (ev_var ha) (ea_cons (ev_var hj) ea_nil)) ⟨S.n, P, p, rfl, by have := ok.n12; omega, h1, h2, fun x hx => Nat.lt_of_lt_of_le (hb x hx) (Nat.pow_le_pow_right (by decide) (by decide)), rfl⟩ rfl)
  have sm90 : ∀ {X : List (List Int)}, Sm S.n 90 X → Sm S.n 100 X := fun h => ⟨h.len, h.bd, Nat.le_trans h.cnt (by decide)⟩
  let B0 : En := [.un, .d (dSys S), .d (.int (S.n : Nat)), .d (dV d), .d (.int (i : Nat)), .d (dVs l.1), .d (dPoly R), .d (dOpt A), .un, .un, .un, .un]
  refine run_seq (run_forN (ei_list (en_take (z := 6) (ev_call (ea_cons (genR _ rfl) (ea_cons (ev_var (i := 2) rfl) (ea_cons (gz _ 10 rfl (by decide)) ea_nil))) ⟨FM.generators R, S.n, FM.col d 10, rfl, by have := ok.n12; omega, ok.pts.ne, ok.pts.cnt, ok.pts.rl, ok.pts.sz, rfl⟩ rfl) (ev_int (i := 6)) (by decide))) (fun _ => B0) rfl (fun i => by simp [B0]) (fun k x hx => ?_)) ?_
  · obtain ⟨p, hp, rfl⟩ := get_dVs hx
    have st := ok.steps p (List.mem_of_getElem? hp)
    simp only [B0, List.set_cons_succ, List.set_cons_zero]
    have b2 : Bd 2000 p := fun x hx => Nat.lt_of_lt_of_le (st.bd x hx) (Nat.pow_le_pow_right (by decide) (by decide))
    by_cases q : holdsB l.1 p = false
    · exact ⟨_, .inr (run_seqC (run_if (b := true) (et_eq (et_not (holds _ 8 p rfl rfl st.len b2)) (by rw [q]; rfl)) (fun _ => run_cont) (fun z => by cases z))), rfl⟩
    replace q : holdsB l.1 p = true := by simpa using q
    obtain ⟨Q, rfl, hq, ml, mb, more⟩ := st.go q
    obtain ⟨s1, s2, _⟩ := ok.again Q rfl
    have wts : ∀ (env : En) (q2 : List Int), env[1]? = some (.d (dSys S)) → env[4]? = some (.d (.int (i : Nat))) → env[8]? = some (.d (dV p)) → env[9]? = some (.d (dV q2)) → Bd 2000 q2 → (holdsB l.1 q2 = true → WaitOk S l p q2) → EvT K T (tB (tCall (SpD K T 4 F_waits) [] E0 (tCons (tVar 1) (tCons (tVar 4) (tCons (tVar 8) (tCons (tVar 9) tNil)))))) env (holdsB l.1 q2 && FM.hasPoint (reach S l p) q2) := fun env q2 h1 h4 h8 h9 hb hw => et_B (ev_call (ea_cons (ev_var h1) (ea_cons (ev_var h4) (ea_cons (ev_var h8) (ea_cons (ev_var h9) ea_nil)))) ⟨S, i, l, p, q2, rfl, ok.hl, ok.lok, fun x hx => Nat.lt_of_lt_of_le (b2 x hx) (Nat.pow_le_pow_right (by decide) (by decide)), fun x hx => Nat.lt_of_lt_of_le (hb x hx) (Nat.pow_le_pow_right (by decide) (by decide)), q, hw, rfl⟩ rfl)
    have mvE : ∀ (env : En), env[1]? = some (.d (dSys S)) → env[4]? = some (.d (.int (i : Nat))) → env[8]? = some (.d (dV p)) → env[3]? = some (.d (dV d)) → EvE K T (tCall (SpD K T 4 F_moved) [] E0 (tCons (tVar 1) (tCons (tVar 4) (tCons (tVar 8) (tCons (tOp (rIxL K) (tVar 3) (tC (.int (11 : Nat)))) tNil))))) env (dV (movedM S.n l.2 p (FM.col d 11))) := fun env h1 h4 h8 h3 => ev_call (ea_cons (ev_var h1) (ea_cons (ev_var h4) (ea_cons (ev_var h8) (ea_cons (gz _ 11 h3 (by decide)) ea_nil)))) ⟨S, i, l, p, FM.col d 11, rfl, ok.hl, by have := ok.n12; omega, st.len, st.bd, ok.rates.1, ok.rates.2, rfl⟩ rfl
    generalize movedM S.n l.2 p (FM.col d 11) = mv at ml mb more mvE
    refine (?_ : ∃ y9 y10, Run K T _ _ (.nx [.un, .d (dSys S), .d (.int (S.n : Nat)), .d (dV d), .d (.int (i : Nat)), .d (dVs l.1), .d (dPoly R), .d (dPoly Q), .d (dV p), y9, y10, .un]) ∨ Run K T _ _ (.ct [.un, .d (dSys S), .d (.int (S.n : Nat)), .d (dV d), .d (.int (i : Nat)), .d (dVs l.1), .d (dPoly R), .d (dPoly Q), .d (dV p), y9, y10, .un])).elim fun y9 h => h.elim fun y10 h => ⟨_, h.imp (fun h => run_endF 9 (run_endF 10 h)) (fun h => run_ctF 9 (run_ctF 10 h)), rfl⟩
    by_cases q2 : holdsB l.1 mv = false
    · refine ⟨.d (dV mv), .un, .inr ?_⟩
      refine run_seq (run_if (b := false) (et_eq (et_not (holds _ 8 p rfl rfl st.len b2)) (by rw [q]; rfl)) (fun z => by cases z) (fun _ => run_next)) ?_
      refine run_seq (run_if (b := false) (et_eq (et_or (et_test (ev_isN (ev_var (i := 7) (x := dPoly Q) rfl) (b := false) rfl)) (fun _ => et_not (has _ 7 8 Q p rfl rfl (sm90 s1) (sm90 s2) b2))) (by rw [hq]; rfl)) (fun z => by cases z) (fun _ => run_next)) ?_
      refine run_seq (run_set (mvE _ rfl rfl rfl rfl) (by simp)) ?_
      exact run_seqC (run_if (b := true) (et_eq (et_not (holds _ 9 mv rfl rfl ml mb)) (by rw [q2]; rfl)) (fun _ => run_seq (run_if (b := false) (et_eq (wts _ mv rfl rfl rfl rfl mb (fun z => by rw [q2] at z; cases z)) (by rw [q2]; rfl)) (fun z => by cases z) (fun _ => run_next)) run_cont) (fun z => by cases z))
    replace q2 : holdsB l.1 mv = true := by simpa using q2
    obtain ⟨m1, m2, m3, m4, m5, B, m6, m7, m8, m9⟩ := more q2
    refine ⟨.d (dV mv), .d (dPoly B), .inl ?_⟩
    refine run_seq (run_if (b := false) (et_eq (et_not (holds _ 8 p rfl rfl st.len b2)) (by rw [q]; rfl)) (fun z => by cases z) (fun _ => run_next)) ?_
    refine run_seq (run_if (b := false) (et_eq (et_or (et_test (ev_isN (ev_var (i := 7) (x := dPoly Q) rfl) (b := false) rfl)) (fun _ => et_not (has _ 7 8 Q p rfl rfl (sm90 s1) (sm90 s2) b2))) (by rw [hq]; rfl)) (fun z => by cases z) (fun _ => run_next)) ?_
    refine run_seq (run_set (mvE _ rfl rfl rfl rfl) (by simp)) ?_
    refine run_seq (run_if (b := false) (et_eq (et_not (holds _ 9 mv rfl rfl ml mb)) (by rw [q2]; rfl)) (fun z => by cases z) (fun _ => run_next)) ?_
    refine run_seq (run_if (b := false) (et_eq (et_or (et_not (has _ 7 9 Q mv rfl rfl (sm90 s1) (sm90 s2) mb)) (fun _ => et_not (wts _ mv rfl rfl rfl rfl mb (fun _ => m1)))) (by rw [q2, m2, m3]; rfl)) (fun z => by cases z) (fun _ => run_next)) ?_
    refine run_seq (run_set (x := dPoly B) (ev_eq (ev_call (ea_cons (ev_var (i := 1) rfl) (ea_cons (ev_var (i := 4) rfl) (ea_cons (ev_callD (es := List.replicate 2 (.tuple [])) (ea_cons (ev_var (i := 2) rfl) (ea_cons (en_lst (ea_cons (ev_var (i := 9) rfl) ea_nil) (by simp)).e ea_nil)) ⟨S.n, [mv], [], [], .tuple [], .tuple [], rfl, .unit, .unit, ok.n12, m4, ⟨(fun _ h => nomatch h), (fun _ h => nomatch h), (by simp)⟩, ⟨(fun _ h => nomatch h), (fun _ h => nomatch h), (by simp)⟩, (by simp), rfl⟩ rfl hda2) ea_nil))) ⟨S, i, l, FM.spanned S.n [mv] [] [], rfl, ok.hl, ok.lok.rates, ok.lok.rcnt, m5, rfl⟩ rfl) (by rw [m6]; rfl)) (by simp)) ?_
    exact run_if (b := false) (et_eq (et_or (et_test (ev_isN (ev_var (i := 10) (x := dPoly B) rfl) (b := false) rfl)) (fun _ => et_not (has _ 10 8 B p rfl rfl m8 m9 b2))) (by rw [m7]; rfl)) (fun z => by cases z) (fun _ => run_next)
  show Run K T _ B0 _
  cases A with
  | none => exact run_seqR (run_if (b := true) (et_test (ev_isN (ev_var (i := 7) (x := .none) rfl) rfl)) (fun _ => run_ret ev_bl) (fun q => by cases q))
  | some Q =>
    obtain ⟨s1, s2, s3, s4, s5, s6⟩ := ok.again Q rfl
    refine run_seq (run_if (b := false) (et_test (ev_isN (ev_var (i := 7) (x := dPoly Q) rfl) rfl)) (fun q => by cases q) (fun _ => run_next)) ?_
    refine run_seq (run_if (b := false) (et_eq (et_test (ev_op (ev_eq (ev_call (ea_cons (ev_var (i := 1) rfl) (ea_cons (ev_var (i := 4) rfl) (ea_cons (ev_var (i := 7) (x := dPoly Q) rfl) ea_nil))) ⟨S, i, l, Q, rfl, ok.hl, ok.lok.rates, ok.lok.rcnt, s3, rfl⟩ rfl) (y := dPoly Q) (by rw [s4]; rfl)) (ev_var (i := 7) (x := dPoly Q) rfl) (op_neDat (shaped_poly _) (shaped_poly _)))) (by rw [eqv_poly]; rfl)) (fun q => by cases q) (fun _ => run_next)) ?_
    refine run_seq (run_forN (ei_list (en_take (z := 4) (ev_call (ea_cons (ev_call (ea_cons (ev_var (i := 7) (x := dPoly Q) rfl) ea_nil) ⟨S.n, Q, rfl, s5.en, ok.n12, s5.eqs, s5.fac, rfl⟩ rfl) (ea_cons (ev_var (i := 2) rfl) (ea_cons (gz _ 11 rfl (by decide)) ea_nil))) ⟨FM.generators Q, S.n, FM.col d 11, rfl, by have := ok.n12; omega, s5.ne, s5.cnt, s5.rl, s5.sz, rfl⟩ rfl) (ev_int (i := 4)) (by decide))) (fun _ => B0) rfl (fun i => by simp [B0]) (fun k x hx => ?_)) (run_ret ev_bl)
    obtain ⟨q, hq, rfl⟩ := get_dVs hx
    obtain ⟨m4, m5, B, C, p, m6, c1, c2, c3, c4, c5, c6, bp, bq, hp, hq2, wo, rq⟩ := s6 q (List.mem_of_getElem? hq)
    simp only [B0, List.set_cons_succ, List.set_cons_zero]
    refine (?_ : ∃ y11, Run K T _ _ (.nx [.un, .d (dSys S), .d (.int (S.n : Nat)), .d (dV d), .d (.int (i : Nat)), .d (dVs l.1), .d (dPoly R), .d (dPoly Q), .un, .d (dV q), .un, y11])).elim fun y11 h => ⟨_, .inl (run_endF 11 h), rfl⟩
    refine ⟨.d (dPoly C), ?_⟩
    refine run_seq (run_set (x := dPoly C) (ev_eq (ev_call (ea_cons (ev_var (i := 6) rfl) (ea_cons (ev_eq (ev_call (ea_cons (ev_var (i := 1) rfl) (ea_cons (ev_var (i := 4) rfl) (ea_cons (ev_callD (es := List.replicate 2 (.tuple [])) (ea_cons (ev_var (i := 2) rfl) (ea_cons (en_lst (ea_cons (ev_var (i := 9) rfl) ea_nil) (by simp)).e ea_nil)) ⟨S.n, [q], [], [], .tuple [], .tuple [], rfl, .unit, .unit, ok.n12, m4, ⟨(fun _ h => nomatch h), (fun _ h => nomatch h), (by simp)⟩, ⟨(fun _ h => nomatch h), (fun _ h => nomatch h), (by simp)⟩, (by simp), rfl⟩ rfl hda2) ea_nil))) ⟨S, i, l, FM.spanned S.n [q] [] [], rfl, ok.hl, ok.lok.rates, ok.lok.rcnt, m5, rfl⟩ rfl) (y := dPoly B) (by rw [m6]; rfl)) ea_nil)) ⟨R, B, rfl, c1, rfl⟩ rfl) (by rw [c2]; rfl)) (by simp)) ?_
    have gp : ((FM.generators C).points.map dV)[0]? = some (dV p) := by rw [List.getElem?_map, c6]; rfl
    exact run_if (b := false) (et_eq (et_or (et_test (ev_isN (ev_var (i := 11) (x := dPoly C) rfl) (b := false) rfl)) (fun _ => et_not (et_B (ev_call (ea_cons (ev_var (i := 1) rfl) (ea_cons (ev_var (i := 4) rfl) (ea_cons (ev_op (ev_op (ev_call (ea_cons (ev_var (i := 11) rfl) ea_nil) ⟨S.n, C, rfl, c3, ok.n12, c4, c5, rfl⟩ rfl) (ev_int (i := 0)) (op_ixT (i := 0) (x := dVs (FM.generators C).points) (at_nat (i := 0) rfl))) (ev_int (i := 0)) (op_ixL (i := 0) (at_nat (i := 0) gp))) (ea_cons (ev_var (i := 9) rfl) ea_nil)))) ⟨S, i, l, p, q, rfl, ok.hl, ok.lok, fun x hx => Nat.lt_of_lt_of_le (bp x hx) (Nat.pow_le_pow_right (by decide) (by decide)), fun x hx => Nat.lt_of_lt_of_le (bq x hx) (Nat.pow_le_pow_right (by decide) (by decide)), hp, fun _ => wo, rfl⟩ rfl)))) (by rw [hq2, rq]; rfl)) (fun z => by cases z) (fun _ => run_next)
end FD
end
section
set_option Elab.async false
set_option linter.all false
set_option maxRecDepth 100000
/-! the plain law: the rows that the draws make -/
namespace FD
open PySem PySem.Spec PyProof.Rows L2 LamX FW FT FK
theorem unit_form (n k : Nat) (i f : Int) : unitM (n + 1) (1 + k) i f = f :: (List.replicate n 0).set k i := by
  unfold unitM
  rw [List.replicate_succ, Nat.add_comm 1 k, List.set_cons_succ, List.set_cons_zero]
  have : FM.col ((0 : Int) :: (List.replicate n 0).set k i) 0 = 0 := rfl
  rw [this, Int.zero_add]
theorem unit_row {n k M : Nat} {i f : Int} (hi : i.natAbs ≤ M) (hf : f.natAbs ≤ M) : (unitM (n + 1) (1 + k) i f).length = n + 1 ∧ FM.Bnd M (unitM (n + 1) (1 + k) i f) := by
  refine ⟨unitM_len _ _ i f, fun x hx => ?_⟩
  rw [unit_form] at hx
  rcases List.mem_cons.mp hx with rfl | a
  · exact hf
  rcases List.mem_or_eq_of_mem_set a with a | rfl
  · rw [List.eq_of_mem_replicate a]; simp
  · exact hi
theorem box_row {ds : List Int} {at_ n : Nat} {x : List Int} (h : x ∈ boxM ds at_ n) : x.length = n + 1 ∧ FM.Bnd 8 x := by
  unfold boxM at h
  obtain ⟨k, hk, h⟩ := List.mem_flatMap.mp h
  unfold boxK at h
  rcases List.mem_cons.mp h with rfl | h
  · exact unit_row (by omega) (by omega)
  · split at h
    · obtain rfl := List.mem_singleton.mp h
      exact unit_row (by omega) (by omega)
    · cases h
theorem box_len (ds : List Int) (at_ n : Nat) : (boxM ds at_ n).length ≤ n * 2 := flat_len (fun k => by unfold boxK; split <;> simp) n
theorem loc_row {ds : List Int} {at_ n fixed : Nat} {x : List Int} (h : x ∈ (locM ds at_ n fixed).1) : x.length = n + 1 ∧ FM.Bnd 8 x := by
  unfold locM at h
  obtain ⟨k, hk, h⟩ := List.mem_flatMap.mp h
  unfold locK at h
  rcases List.mem_append.mp h with h | h
  all_goals
    split at h
    · obtain rfl := List.mem_singleton.mp h
      exact unit_row (by omega) (by omega)
    · cases h
theorem loc_len (ds : List Int) (at_ n fixed : Nat) : (locM ds at_ n fixed).1.length ≤ (n - fixed) * 2 := flat_len (fun k => by unfold locK; split <;> split <;> simp) (n - fixed)
end FD
end
section
set_option Elab.async false
set_option linter.all false
set_option maxRecDepth 100000
/-! The plain law: points of polyhedra, and points moved. -/
namespace FD
open FM (Vec Gen K WF Bnd Lens Dirs GenB smul comb col)
theorem ext_colB {n : Nat} {u v : List Int} (hu : u.length = n) (hv : v.length = n) (h : ∀ i, i < n → col u i = col v i) : u = v := by
  refine List.ext_getElem (by omega) fun i h1 h2 => ?_
  have := h i (by omega)
  rwa [FM.col_get h1, FM.col_get h2] at this
theorem col_mapR {m i : Nat} {f : Nat → Int} (h : i < m) : col ((List.range m).map f) i = f i := by
  rw [FM.col_get (by simpa using h)]; simp
theorem map_comb {n : Nat} {u v : List Int} {a b : Int} (hu : u.length = n) (hv : v.length = n) : ((List.range n).map fun j => a * col u j + b * col v j) = comb a u b v :=
  ext_colB (by simp) (FM.comb_len hu hv) fun i hi => by rw [col_mapR hi, FM.col_comb hu hv hi]
/-- cones hold sums and primitive vectors -/
theorem K_of_gen {n : Nat} {P : FM.Poly} {v : List Int} (w : WF n P) : K n P v ↔ Gen (n + 1) (FM.generators P).lines ((FM.generators P).points ++ (FM.generators P).rays) v := ((FM.gen_spec w).2.1 v).symm
theorem gen_prim {n : Nat} {L R : List (List Int)} {v : List Int} (hv : v.length = n) (g : Gen n L R v) : Gen n L R (FM.primitive v) := by
  obtain ⟨k, hk, e⟩ := FM.primitive_spec v
  refine .div hk (by rw [FM.primitive_length, hv]) ?_
  rwa [← e]
theorem col0_prim {n : Nat} {v : List Int} (hv : v.length = n + 1) (h : 0 < col v 0) : 0 < col (FM.primitive v) 0 := by
  obtain ⟨k, hk, e⟩ := FM.primitive_spec v
  have := congrArg (fun v => col v 0) e
  have this : col v 0 = col (smul k (FM.primitive v)) 0 := this
  rw [FM.col_smul (n := n + 1) (by rw [FM.primitive_length, hv]) (by omega)] at this
  rw [this] at h
  exact Int.pos_of_mul_pos_right h hk
theorem bnd_col {M : Nat} {v : List Int} {i : Nat} (h : Bnd M v) (hi : i < v.length) : (col v i).natAbs ≤ M := by rw [FM.col_get hi]; exact h _ (List.getElem_mem _)
theorem six_sq (g : Nat) : 3 * 2 ^ g * 2 ^ g + 3 * 2 ^ g * 2 ^ g ≤ 2 ^ (2 * g + 3) := by
  have e : 2 ^ (2 * g + 3) = 8 * (2 ^ g * 2 ^ g) := by rw [Nat.pow_add, show 2 * g = g + g by omega, Nat.pow_add]; omega
  have e2 : 3 * 2 ^ g * 2 ^ g = 3 * (2 ^ g * 2 ^ g) := Nat.mul_assoc ..
  omega
theorem five_sq (g : Nat) : 1 * 2 ^ g + 4 * 2 ^ g * 2 ^ g ≤ 2 ^ (2 * g + 3) := by
  have e : 2 ^ (2 * g + 3) = 8 * (2 ^ g * 2 ^ g) := by rw [Nat.pow_add, show 2 * g = g + g by omega, Nat.pow_add]; omega
  have e2 : 4 * 2 ^ g * 2 ^ g = 4 * (2 ^ g * 2 ^ g) := Nat.mul_assoc ..
  have := Nat.one_le_two_pow (n := g)
  have : 2 ^ g * 1 ≤ 2 ^ g * 2 ^ g := Nat.mul_le_mul_left _ this
  omega
theorem ptAt_mem {pts : List (List Int)} {z : Int} (h : 0 < pts.length) : ptAt pts z ∈ pts := by
  have h0 := Int.emod_nonneg z (show (pts.length : Int) ≠ 0 by omega)
  have h1 := Int.emod_lt_of_pos z (show (0 : Int) < (pts.length : Int) by omega)
  have h2 : (z % (pts.length : Int)).toNat < pts.length := by omega
  unfold ptAt
  rw [List.getD_eq_getElem?_getD, List.getElem?_eq_getElem h2]
  exact List.getElem_mem _
theorem points_spec {n g k : Nat} {P : FM.Poly} (w : WF n P) (gb : GenB n g k P) {draw : Int} (h0 : 0 ≤ draw) {q : List Int} (hq : q ∈ pointsM n draw (FM.generators P)) : K n P q ∧ q.length = n + 1 ∧ 0 < col q 0 ∧ Bnd (2 ^ (2 * g + 3)) q := by
  obtain ⟨G, gg, ne, pp, rr⟩ := FM.gen_spec w
  have len0 : 0 < (FM.generators P).points.length := by
    rcases Nat.eq_zero_or_pos (FM.generators P).points.length with z | z
    · exact absurd (List.length_eq_zero_iff.mp z) ne
    · exact z
  have pt : ∀ x ∈ (FM.generators P).points, Gen (n + 1) (FM.generators P).lines ((FM.generators P).points ++ (FM.generators P).rays) x ∧ x.length = n + 1 ∧ 0 < col x 0 ∧ Bnd (2 ^ g) x := fun x hx => ⟨.ray (by simp [hx]), (gb.sz x (by simp [hx])).1, pp x hx, (gb.sz x (by simp [hx])).2⟩
  refine (?_ : Gen (n + 1) (FM.generators P).lines ((FM.generators P).points ++ (FM.generators P).rays) q ∧ q.length = n + 1 ∧ 0 < col q 0 ∧ Bnd (2 ^ (2 * g + 3)) q).imp_left fun z => (K_of_gen w).mpr z
  unfold pointsM at hq
  rcases List.mem_append.mp hq with hq | hq
  · rcases List.mem_append.mp hq with hq | hq
    · obtain ⟨a, b, c, d⟩ := pt q hq
      exact ⟨a, b, c, FM.bnd_up d (by omega)⟩
    · obtain ⟨i, hi, rfl⟩ := List.mem_map.mp hq
      rw [List.mem_range] at hi
      have m1 : (FM.generators P).points.getD i [] ∈ (FM.generators P).points := by
        rw [List.getD_eq_getElem?_getD, List.getElem?_eq_getElem hi]; exact List.getElem_mem _
      obtain ⟨a1, b1, c1, d1⟩ := pt _ m1
      obtain ⟨a2, b2, c2, d2⟩ := pt _ (ptAt_mem (z := (i : Int) + 1 + draw) len0)
      unfold mixM
      generalize (FM.generators P).points.getD i [] = u at *
      generalize ptAt (FM.generators P).points ((i : Int) + 1 + draw) = o at *
      rw [map_comb b1 b2]
      have x1 := Int.emod_nonneg draw (show (3 : Int) ≠ 0 by decide)
      have x2 := Int.emod_lt_of_pos draw (show (0 : Int) < 3 by decide)
      have x3 := Int.emod_nonneg (draw / 3) (show (3 : Int) ≠ 0 by decide)
      have x4 := Int.emod_lt_of_pos (draw / 3) (show (0 : Int) < 3 by decide)
      generalize draw % 3 = y at *
      generalize draw / 3 % 3 = z at *
      have p1 : 0 < (1 + y) * col o 0 := Int.mul_pos (by omega) c2
      have p2 : 0 < (1 + z) * col u 0 := Int.mul_pos (by omega) c1
      have lc : (comb ((1 + y) * col o 0) u ((1 + z) * col u 0) o).length = n + 1 := FM.comb_len b1 b2
      refine ⟨gen_prim lc (.comb (by omega) (by omega) a1 a2), by rw [FM.primitive_length, lc], col0_prim lc ?_, FM.Bnd.primitive (FM.Bnd.mono (FM.Bnd.comb (p := 3 * 2 ^ g) (q := 3 * 2 ^ g) d1 d2 (FM.natAbs_mul_le (by omega) (bnd_col d2 (by omega))) (FM.natAbs_mul_le (by omega) (bnd_col d1 (by omega)))) (six_sq g))⟩
      rw [FM.col_comb b1 b2 (by omega)]
      have := Int.mul_pos p1 c1
      have := Int.mul_pos p2 c2
      omega
  · obtain ⟨row, hr, rfl⟩ := List.mem_map.mp hq
    obtain ⟨a1, b1, c1, d1⟩ := pt _ (ptAt_mem (z := draw) len0)
    have rowOk : Gen (n + 1) (FM.generators P).lines ((FM.generators P).points ++ (FM.generators P).rays) row ∧ row.length = n + 1 ∧ col row 0 = 0 ∧ Bnd (2 ^ g) row := by
      have s := gb.sz row (by rcases List.mem_append.mp hr with a | a <;> simp [a])
      rcases List.mem_append.mp hr with a | a
      · exact ⟨.ray (by simp [a]), s.1, rr row a, s.2⟩
      · exact ⟨.line a, s.1, G.line0 row a, s.2⟩
    obtain ⟨a2, b2, c2, d2⟩ := rowOk
    unfold goM
    generalize ptAt (FM.generators P).points draw = u at *
    have x1 := Int.emod_nonneg (draw / 9) (show (4 : Int) ≠ 0 by decide)
    have x2 := Int.emod_lt_of_pos (draw / 9) (show (0 : Int) < 4 by decide)
    generalize draw / 9 % 4 = y at *
    have e : ((List.range (n + 1)).map fun j => col u j + (1 + y) * col u 0 * col row j) = comb 1 u ((1 + y) * col u 0) row := by
      rw [← map_comb b1 b2]
      simp only [Int.one_mul]
    rw [e]
    have p1 : 0 < (1 + y) * col u 0 := Int.mul_pos (by omega) c1
    have lc : (comb 1 u ((1 + y) * col u 0) row).length = n + 1 := FM.comb_len b1 b2
    refine ⟨gen_prim lc (.comb (by omega) (by omega) a1 a2), by rw [FM.primitive_length, lc], col0_prim lc ?_, FM.Bnd.primitive (FM.Bnd.mono (FM.Bnd.comb (p := 1) (q := 4 * 2 ^ g) d1 d2 (by decide) (FM.natAbs_mul_le (by omega) (bnd_col d1 (by omega)))) (five_sq g))⟩
    rw [FM.col_comb b1 b2 (by omega), c2, Int.mul_zero, Int.one_mul]
    omega
/-! ### moved -/
theorem col_set {v : List Int} {i j : Nat} {x : Int} (hi : i < v.length) : col (v.set i x) j = if i = j then x else col v j := by
  unfold col
  rw [List.getD_eq_getElem?_getD, List.getD_eq_getElem?_getD]
  by_cases h : i = j
  · subst h; rw [if_pos rfl, List.getElem?_set_self hi]; rfl
  · rw [if_neg h, List.getElem?_set_ne h]
theorem mvK_col {n : Nat} {rate mv : List Int} {time : Int} (hl : mv.length = n + 1) : ∀ k, k ≤ n → ∀ i, col (mvK rate time mv k) i = if 1 ≤ i ∧ i ≤ k then col mv i + time * col rate i * (col mv 0 / col rate 0) else col mv i
  | 0, _, i => by rw [if_neg (by omega)]; rfl
  | k + 1, hk, i => by
    have ih := mvK_col (rate := rate) (time := time) hl k (by omega)
    unfold mvK
    rw [col_set (by rw [mvK_len, hl]; omega), ih, ih, ih]
    by_cases h : 1 + k = i
    · subst h
      rw [if_pos rfl, if_neg (by omega), if_neg (by omega), if_pos (by omega)]
    · rw [if_neg h]
      by_cases h2 : 1 ≤ i ∧ i ≤ k
      · rw [if_pos h2, if_pos (by omega)]
      · rw [if_neg h2, if_neg (by omega)]
theorem col_flat (r : List Int) (i : Nat) (h : 1 ≤ i) : col (0 :: r.drop 1) i = col r i := by
  unfold col
  cases r with
  | nil => cases i <;> simp
  | cons x r => cases i with
    | zero => omega
    | succ i => simp
theorem mvK_comb {n : Nat} {rate mv : List Int} {time : Int} (hl : mv.length = n + 1) (lr : rate.length = n + 1) : mvK rate time mv n = comb 1 mv (time * (col mv 0 / col rate 0)) (0 :: rate.drop 1) := by
  have l2 : ((0 : Int) :: rate.drop 1).length = n + 1 := by simp [lr]
  refine ext_colB (by rw [mvK_len, hl]) (FM.comb_len hl l2) fun i hi => ?_
  rw [mvK_col hl n (Nat.le_refl _), FM.col_comb hl l2 hi]
  by_cases h : 1 ≤ i ∧ i ≤ n
  · rw [if_pos h, col_flat _ _ h.1]; grind
  · rw [if_neg h]
    obtain rfl : i = 0 := by omega
    rw [show col ((0 : Int) :: rate.drop 1) 0 = 0 from rfl]; simp
/-- a direction of a rate -/
theorem dir_gen {n : Nat} {rates : List (List Int)} {r p : List Int} (lr : r.length = n + 1) (hr : r ∈ rates) : Gen (n + 1) [] (p :: dirsOf rates) (0 :: r.drop 1) := by
  have l2 : ((0 : Int) :: r.drop 1).length = n + 1 := by simp [lr]
  obtain ⟨k, hk, e⟩ := FM.primitive_spec (0 :: r.drop 1)
  rw [e]
  refine Gen.smul (Int.le_of_lt hk) ?_
  by_cases h : (FM.primitive (0 :: r.drop 1)).any (fun z => z != 0) = true
  · exact .ray (List.mem_cons_of_mem _ (List.mem_filter.mpr ⟨List.mem_map.mpr ⟨r, hr, rfl⟩, h⟩))
  · have : FM.primitive (0 :: r.drop 1) = FM.zeros (n + 1) := by
      refine List.eq_replicate_iff.mpr ⟨by rw [FM.primitive_length, l2], fun z hz => ?_⟩
      refine Classical.byContradiction fun q => h (List.any_eq_true.mpr ⟨z, hz, by simpa using q⟩)
    rw [this]
    exact .zero
structure RateOk (n : Nat) (r : List Int) : Prop where
  len : r.length = n + 1
  hd : col r 0 = 1
  bd : Bnd 2 r
theorem RateOk.flat {n : Nat} {r : List Int} (h : RateOk n r) : Bnd 2 (0 :: r.drop 1) := fun x hx => by
  rcases List.mem_cons.mp hx with rfl | a
  · decide
  · rcases h.bd x (List.mem_of_mem_drop a) with q
    exact q
theorem thirteen {a : Nat} : 1 * 2 ^ a + 6 * 2 ^ a * 2 ≤ 2 ^ (a + 4) := by
  rw [Nat.pow_add]; omega
theorem mvJ_spec {n a : Nat} {rates : List (List Int)} {p : List Int} {draw : Int} (hr : ∀ r ∈ rates, RateOk n r) (lp : p.length = n + 1) (p0 : 0 < col p 0) (bp : Bnd (2 ^ a) p) : ∀ j, j ≤ rates.length → Gen (n + 1) [] (p :: dirsOf rates) (mvJ n rates p draw j).1 ∧ 0 < col (mvJ n rates p draw j).1 0 ∧ Bnd (2 ^ (a + 1 + 4 * j)) (mvJ n rates p draw j).1
  | 0, _ => by
    have e : (mvJ n rates p draw 0).1 = smul 2 p := by
      unfold mvJ smul
      exact List.map_congr_left fun x _ => Int.mul_comm x 2
    rw [e]
    refine ⟨Gen.smul (by decide) (.ray (by simp)), by rw [FM.col_smul lp (by omega)]; omega, fun x hx => ?_⟩
    obtain ⟨y, hy, rfl⟩ := List.mem_map.mp hx
    have := bp y hy
    rw [show a + 1 + 4 * 0 = a + 1 by omega, Nat.pow_succ, Int.natAbs_mul]
    rw [show (2 : Int).natAbs = 2 from rfl]
    omega
  | j + 1, hj => by
    obtain ⟨i1, i2, i3⟩ := mvJ_spec (draw := draw) hr lp p0 bp j (by omega)
    have ll := mvJ_len n rates p draw j
    have m1 : rates.getD j [] ∈ rates := by
      rw [List.getD_eq_getElem?_getD, List.getElem?_eq_getElem (by omega)]; exact List.getElem_mem _
    have e0 : (mvJ n rates p draw (j + 1)).1 = mvK (rates.getD j []) ((mvJ n rates p draw j).2 % 7) ((mvJ n rates p draw j).1.map fun x => col (rates.getD j []) 0 * x) n := rfl
    rw [e0]
    generalize (mvJ n rates p draw j).1 = m at *
    generalize (mvJ n rates p draw j).2 = z at *
    generalize rates.getD j [] = r at *
    have R := hr r m1
    rw [lp] at ll
    have e1 : (m.map fun x => col r 0 * x) = m := by
      rw [R.hd]
      simp only [Int.one_mul]
      exact List.map_id' m
    rw [e1, mvK_comb ll R.len, R.hd, Int.ediv_one]
    have x1 := Int.emod_nonneg z (show (7 : Int) ≠ 0 by decide)
    have x2 := Int.emod_lt_of_pos z (show (0 : Int) < 7 by decide)
    generalize z % 7 = t at *
    have l2 : ((0 : Int) :: r.drop 1).length = n + 1 := by simp [R.len]
    refine ⟨.comb (by decide) (Int.mul_nonneg x1 (by omega)) i1 (dir_gen R.len m1), ?_, FM.Bnd.mono (FM.Bnd.comb (p := 1) (q := 6 * 2 ^ (a + 1 + 4 * j)) i3 R.flat (by decide) (FM.natAbs_mul_le (by omega) (bnd_col i3 (by omega)))) (by rw [show a + 1 + 4 * (j + 1) = (a + 1 + 4 * j) + 4 by omega]; exact thirteen)⟩
    rw [FM.col_comb ll l2 (by omega), show col ((0 : Int) :: r.drop 1) 0 = 0 from rfl]
    omega
theorem moved_spec {n a : Nat} {rates : List (List Int)} {p : List Int} {draw : Int} (hr : ∀ r ∈ rates, RateOk n r) (c2 : rates.length ≤ 2) (lp : p.length = n + 1) (p0 : 0 < col p 0) (bp : Bnd (2 ^ a) p) : Gen (n + 1) [] (p :: dirsOf rates) (movedM n rates p draw) ∧ (movedM n rates p draw).length = n + 1 ∧ 0 < col (movedM n rates p draw) 0 ∧ Bnd (2 ^ (a + 9)) (movedM n rates p draw) := by
  obtain ⟨i1, i2, i3⟩ := mvJ_spec (draw := draw) hr lp p0 bp rates.length (Nat.le_refl _)
  have ll := mvJ_len n rates p draw rates.length
  rw [lp] at ll
  unfold movedM
  exact ⟨gen_prim ll i1, by rw [FM.primitive_length, ll], col0_prim ll i2, FM.Bnd.primitive (FM.bnd_up i3 (by omega))⟩
theorem dirs_spec {n : Nat} {rates : List (List Int)} (hr : ∀ r ∈ rates, RateOk n r) : Dirs n (dirsOf rates) ∧ (∀ x ∈ dirsOf rates, Bnd 2 x) ∧ (dirsOf rates).length ≤ rates.length := by
  have mem : ∀ x ∈ dirsOf rates, ∃ r ∈ rates, FM.primitive (0 :: r.drop 1) = x := fun x hx => List.mem_map.mp (List.mem_filter.mp hx).1
  refine ⟨fun x hx => ?_, fun x hx => ?_, ?_⟩
  · obtain ⟨r, h, rfl⟩ := mem x hx
    have l2 : ((0 : Int) :: r.drop 1).length = n + 1 := by simp [(hr r h).len]
    exact ⟨by rw [FM.primitive_length, l2], (FM.col_prim l2 (by omega)).mpr rfl⟩
  · obtain ⟨r, h, rfl⟩ := mem x hx
    exact FM.Bnd.primitive (hr r h).flat
  · unfold dirsOf
    have := List.length_filter_le (fun d : List Int => d.any fun z => z != 0) (rates.map fun r => FM.primitive (0 :: r.drop 1))
    rwa [List.length_map] at this
theorem negs_bnd {D : List (List Int)} {M : Nat} (h : ∀ x ∈ D, Bnd M x) : ∀ x ∈ FM.negs D, Bnd M x := fun x hx => by
  obtain ⟨y, hy, rfl⟩ := List.mem_map.mp hx
  exact (h y hy).neg
theorem negs_len (D : List (List Int)) : (FM.negs D).length = D.length := List.length_map _
theorem holdsB_iff {inv : List (List Int)} {p : List Int} : holdsB inv p = true ↔ FM.holds inv p := by
  unfold holdsB FM.holds
  simp
end FD
end
section
set_option Elab.async false
set_option linter.all false
set_option maxRecDepth 100000
set_option exponentiation.threshold 1000
/-! The plain law: sizes on the way of waits. -/
namespace FD
open FM (Vec Gen K WF Bnd Lens Dirs GenB FacB Desc smul comb col Sat)
variable {n : Nat}
theorem pow_lt {b c : Nat} (h : b < c) : 2 ^ b < 2 ^ c := Nat.pow_lt_pow_right (by decide) h
theorem sm_of {k b : Nat} {X : List (List Int)} (l : Lens (n + 1) X) (bd : ∀ x ∈ X, Bnd (2 ^ b) x) (hb : b < 800) (c : X.length ≤ k) : Sm n k X := ⟨l, fun x hx => bd_of (bd x hx) (pow_lt hb), c⟩
theorem polyOk2 {b : Nat} {D E E' C' : List (List Int)} (h : n = 1 ∨ n = 2) (sD : Sm n 90 D) (sE : Sm n 90 E) (lE' : Lens (n + 1) E') (lC' : Lens (n + 1) C') (bE : ∀ x ∈ E', Bnd (2 ^ b) x) (bC : ∀ x ∈ C', Bnd (2 ^ b) x)
    (e : ∀ v, v.length = n + 1 → (Sat E (D ++ [FM.horizon n]) v ↔ Sat E' (C' ++ [FM.horizon n]) v)) (hb : 2 * b + 1 < 800) : PolyOk n D E := by
  have c1 := (FM.dual_cone sE.len (FM.lens_horizon sD.len)).1
  have c2 := (FM.dual_cone lE' (FM.lens_horizon lC')).1
  obtain ⟨u1, u2⟩ := c1.unique c2 e
  have B := FM.cone_bits c2 h lE' lC' bE bC
  have N := FM.dual_count (show n + 1 = 2 ∨ n + 1 = 3 by omega) sE.len (FM.lens_horizon sD.len)
  rw [List.length_append, List.length_singleton] at N
  have := sD.cnt
  exact ⟨h, sD, sE, sm_of c1.ech.len (fun x hx => B.1 x (by rwa [← u1])) hb (by omega), sm_of c1.lenr (fun x hx => B.2 x (by rwa [← u2])) hb (by omega)⟩
theorem polyOk1 {b : Nat} {D : List (List Int)} (h : n = 1 ∨ n = 2) (lD : Lens (n + 1) D) (bD : ∀ x ∈ D, Bnd (2 ^ b) x) (cD : D.length ≤ 90) (hb : 2 * b + 1 < 800) : PolyOk n D [] :=
  polyOk2 (E' := []) (C' := D) h (sm_of lD bD (by omega) cD) ⟨(fun x hx => nomatch hx), (fun x hx => nomatch hx), by simp⟩ (fun x hx => nomatch hx) lD (fun x hx => nomatch hx) bD (fun v hv => Iff.rfl) hb
theorem sat_meet {P Q : FM.Poly} {v : List Int} (hv : v.length = n + 1) : Sat (P.2.1 ++ Q.2.1) ((P.2.2 ++ Q.2.2) ++ [FM.horizon n]) v ↔ K n P v ∧ K n Q v := by
  unfold K Sat
  simp only [List.mem_append, List.mem_singleton]
  constructor
  · rintro ⟨b, c⟩
    exact ⟨⟨hv, fun e he => b e (.inl he), fun f hf => c f (hf.elim (fun q => .inl (.inl q)) .inr)⟩, hv, fun e he => b e (.inr he), fun f hf => c f (hf.elim (fun q => .inl (.inr q)) .inr)⟩
  · rintro ⟨⟨a, b, c⟩, _, b', c'⟩
    exact ⟨fun e he => he.elim (b e) (b' e), fun f hf => by
      rcases hf with (hf | hf) | hf
      · exact c f (.inl hf)
      · exact c' f (.inl hf)
      · exact c f (.inr hf)⟩
theorem sat_meet2 {E C E' C' : List (List Int)} {v : List Int} : Sat (E ++ E') ((C ++ C') ++ [FM.horizon n]) v ↔ Sat E (C ++ [FM.horizon n]) v ∧ Sat E' (C' ++ [FM.horizon n]) v := by
  unfold Sat
  simp only [List.mem_append, List.mem_singleton]
  constructor
  · rintro ⟨b, c⟩
    exact ⟨⟨fun e he => b e (.inl he), fun f hf => c f (hf.elim (fun q => .inl (.inl q)) .inr)⟩, fun e he => b e (.inr he), fun f hf => c f (hf.elim (fun q => .inl (.inr q)) .inr)⟩
  · rintro ⟨⟨b, c⟩, b', c'⟩
    exact ⟨fun e he => he.elim (b e) (b' e), fun f hf => by
      rcases hf with (hf | hf) | hf
      · exact c f (.inl hf)
      · exact c' f (.inl hf)
      · exact c f (.inr hf)⟩
/-- two polyhedra that meet -/
theorem meetOk {b k j : Nat} {P Q : FM.Poly} (h : n = 1 ∨ n = 2) (d : Desc n b k P) (d2 : Desc n b j Q) (hb : 4 * b + 3 < 800) (hk : k + j ≤ 88) : PolyOk P.1 (P.2.2 ++ Q.2.2) (P.2.1 ++ Q.2.1) ∧ ∀ C, FM.meet P Q = some C → Desc n b (k + j) C := by
  have f1 := d.fac h
  have f2 := d2.fac h
  obtain ⟨w, E, C, lE, lC, bE, bC, ck, e⟩ := d
  obtain ⟨w2, E2, C2, lE2, lC2, bE2, bC2, ck2, e2⟩ := d2
  have lEE := FM.lens_app lE lE2
  have lCC := FM.lens_app lC lC2
  have bEE : ∀ x ∈ E ++ E2, Bnd (2 ^ b) x := fun x hx => (List.mem_append.mp hx).elim (bE x) (bE2 x)
  have bCC : ∀ x ∈ C ++ C2, Bnd (2 ^ b) x := fun x hx => (List.mem_append.mp hx).elim (bC x) (bC2 x)
  have a1 := f1.cfac
  have a2 := f2.cfac
  have a3 := f1.ceq
  have a4 := f2.ceq
  refine ⟨?_, fun R eR => ?_⟩
  · rw [w.en]
    refine polyOk2 h (sm_of (FM.lens_app w.lens.2 w2.lens.2) (fun x hx => (List.mem_append.mp hx).elim (f1.fac x) (f2.fac x)) hb (by rw [List.length_append]; omega)) (sm_of (FM.lens_app w.lens.1 w2.lens.1) (fun x hx => (List.mem_append.mp hx).elim (f1.eqs x) (f2.eqs x)) hb (by rw [List.length_append]; omega)) lEE lCC bEE bCC (fun v hv => ?_) (by omega)
    rw [sat_meet hv, sat_meet2, e v, e2 v]
    exact ⟨fun ⟨a, b⟩ => ⟨a.2, b.2⟩, fun ⟨a, b⟩ => ⟨⟨hv, a⟩, hv, b⟩⟩
  · obtain ⟨wR, s⟩ := FM.meet_some w w2 eR
    refine ⟨wR, E ++ E2, C ++ C2, lEE, lCC, bEE, bCC, by rw [List.length_append]; omega, fun v => ?_⟩
    rw [s v, e v, e2 v, sat_meet2]
    exact ⟨fun ⟨a, b⟩ => ⟨a.1, a.2, b.2⟩, fun ⟨l, a, b⟩ => ⟨⟨l, a⟩, l, b⟩⟩
/-- a small invariant -/
structure InvB (n : Nat) (inv : List (List Int)) : Prop where
  len : Lens (n + 1) inv
  bd : ∀ x ∈ inv, Bnd (2 ^ 3) x
  cnt : inv.length ≤ 4
theorem InvB.up {inv : List (List Int)} (i : InvB n inv) {b : Nat} (hb : 3 ≤ b) : ∀ x ∈ inv, Bnd (2 ^ b) x := fun x hx => FM.bnd_up (i.bd x hx) hb
theorem inOk {b k : Nat} {inv : List (List Int)} {P : FM.Poly} (h : n = 1 ∨ n = 2) (i : InvB n inv) (d : Desc n b k P) (h3 : 3 ≤ b) (hb : b ≤ 199) (hk : k ≤ 84) : InOk n inv P := by
  have ci := i.cnt
  refine ⟨polyOk1 h i.len i.bd (by omega) (by omega), fun I eI => ?_⟩
  exact (meetOk h d (Desc.poly i.len (i.up h3) ci eI) (by omega) (by omega)).1
/-- small directions -/
structure DirB (n : Nat) (D : List (List Int)) : Prop where
  dirs : Dirs n D
  bd : ∀ x ∈ D, Bnd (2 ^ 1) x
  cnt : D.length ≤ 2
theorem DirB.up {D : List (List Int)} (i : DirB n D) {b : Nat} (hb : 1 ≤ b) : ∀ x ∈ D, Bnd (2 ^ b) x := fun x hx => FM.bnd_up (i.bd x hx) hb
theorem DirB.negs {D : List (List Int)} (i : DirB n D) : DirB n (FM.negs D) := ⟨FM.negs_dirs i.dirs, negs_bnd i.bd, by rw [negs_len]; exact i.cnt⟩
theorem DirB.sm {D : List (List Int)} (i : DirB n D) : Sm n 10 D := sm_of (fun x hx => (i.dirs x hx).1) i.bd (by decide) (by have := i.cnt; omega)
theorem extOk {b c k j : Nat} {Q : FM.Poly} {D : List (List Int)} (h : n = 1 ∨ n = 2) (f : FacB n b k Q) (g : GenB n c j Q) (hb : b < 800) (hc : c < 800) (hk : k ≤ 90) (hj : j ≤ 40) (i : DirB n D) : ExtOk n Q D := by
  obtain ⟨_, _, ne, _⟩ := FM.gen_spec f.wf
  have a1 := f.ceq
  have a2 := f.cfac
  have a3 := g.cnt
  have a4 := g.lin
  have m1 : ∀ x ∈ (FM.generators Q).points, x.length = n + 1 ∧ Bnd (2 ^ c) x := fun x hx => g.sz x (by simp [hx])
  have m2 : ∀ x ∈ (FM.generators Q).rays, x.length = n + 1 ∧ Bnd (2 ^ c) x := fun x hx => g.sz x (by simp [hx])
  have m3 : ∀ x ∈ (FM.generators Q).lines, x.length = n + 1 ∧ Bnd (2 ^ c) x := fun x hx => g.sz x (by simp [hx])
  exact ⟨h, f.wf.en, sm_of f.wf.lens.1 f.eqs hb (by omega), sm_of f.wf.lens.2 f.fac hb (by omega), sm_of (fun x hx => (m1 x hx).1) (fun x hx => (m1 x hx).2) hc (by omega), sm_of (fun x hx => (m2 x hx).1) (fun x hx => (m2 x hx).2) hc (by omega), sm_of (fun x hx => (m3 x hx).1) (fun x hx => (m3 x hx).2) hc (by omega), i.sm, ne⟩
theorem strOk {b k : Nat} {inv D : List (List Int)} {P : FM.Poly} (h : n = 1 ∨ n = 2) (i : InvB n inv) (d : Desc n b k P) (iD : DirB n D) (h3 : 3 ≤ b) (hb : b ≤ 49) (hk : k ≤ 30) : StrOk n inv P D ∧ ∀ A, FM.stretched n inv P D = some A → Desc n (4 * b + 3) (k + 11) A := by
  have ci := i.cnt
  have cD := iD.cnt
  have ext : ∀ Q, FM.inside n inv P = some Q → Desc n b (k + 4) Q ∧ Desc n (4 * b + 3) (k + 7) (FM.extended Q D) := fun Q e => by
    have dq := (d.inside i.len (i.up h3) e).up (Nat.le_refl b) (show k + inv.length ≤ k + 4 by omega)
    exact ⟨dq, (dq.ext h iD.dirs (iD.up (by omega))).desc.up (Nat.le_refl _) (by omega)⟩
  refine ⟨⟨inOk h i d h3 (by omega) (by omega), fun Q e => ?_, fun Q e => inOk h i (ext Q e).2 (by omega) (by omega) (by omega)⟩, fun A e => ?_⟩
  · have dq := (ext Q e).1
    exact extOk h (dq.fac h) (dq.gens h) (by omega) (by omega) (by omega) (by omega) iD
  · unfold FM.stretched at e
    split at e
    · cases e
    · rename_i Q eQ
      exact ((ext Q eQ).2.inside i.len (i.up (by omega)) e).up (Nat.le_refl _) (by omega)
/-- waits from one point of the invariant -/
theorem strOk_point {b : Nat} {inv D : List (List Int)} {q : List Int} (h : n = 1 ∨ n = 2) (i : InvB n inv) (iD : DirB n D) (hq : q.length = n + 1) (q0 : 0 < col q 0) (hi : FM.holds inv q) (bq : Bnd (2 ^ b) q) (h1 : 1 ≤ b) (hb : b ≤ 99) :
    StrOk n inv (FM.spanned n [q] [] []) D ∧ ∀ B, FM.stretched n inv (FM.spanned n [q] [] []) D = some B → Desc n (2 * b + 1) 7 B := by
  have ci := i.cnt
  have cD := iD.cnt
  obtain ⟨f, g⟩ := FM.point_gens h hq q0 bq
  have r := (FM.reach_fac h hq q0 iD.dirs bq (iD.up h1)).desc.up (Nat.le_refl _) (show 1 + D.length ≤ 3 by omega)
  refine ⟨⟨inOk h i f.desc (by omega) (by omega) (by omega), fun Q e => ?_, fun Q e => ?_⟩, fun A e => ?_⟩
  · rw [FM.inside_point hq q0 i.len hi e]
    exact extOk h f g (by omega) (by omega) (by omega) (by omega) iD
  · rw [FM.inside_point hq q0 i.len hi e]
    exact inOk h i r (by omega) (by omega) (by omega)
  · unfold FM.stretched at e
    split at e
    · cases e
    · rename_i Q eQ
      rw [FM.inside_point hq q0 i.len hi eQ] at e
      exact (r.inside i.len (i.up (by omega)) e).up (Nat.le_refl _) (by omega)
theorem extOk_point {b : Nat} {D : List (List Int)} {p : List Int} (h : n = 1 ∨ n = 2) (iD : DirB n D) (hp : p.length = n + 1) (p0 : 0 < col p 0) (bp : Bnd (2 ^ b) p) (h1 : 1 ≤ b) (hb : b ≤ 390) :
    Sm n 50 [p] ∧ ExtOk n (FM.spanned n [p] [] []) D ∧ Sm n 100 (FM.extended (FM.spanned n [p] [] []) D).2.1 ∧ Sm n 100 (FM.extended (FM.spanned n [p] [] []) D).2.2 := by
  have cD := iD.cnt
  obtain ⟨f, g⟩ := FM.point_gens h hp p0 bp
  have r := FM.reach_fac h hp p0 iD.dirs bp (iD.up h1)
  have a1 := r.ceq
  have a2 := r.cfac
  refine ⟨sm_of (fun x hx => by rw [List.mem_singleton.mp hx]; exact hp) (fun x hx => by rw [List.mem_singleton.mp hx]; exact bp) (by omega) (by simp), extOk h f g (by omega) (by omega) (by omega) (by omega) iD, sm_of r.wf.lens.1 r.eqs (by omega) (by omega), sm_of r.wf.lens.2 r.fac (by omega) (by omega)⟩
theorem sm_fac {b k : Nat} {P : FM.Poly} (f : FacB n b k P) (h : n = 1 ∨ n = 2) (hb : b < 800) (hk : k ≤ 90) : Sm n 90 P.2.1 ∧ Sm n 90 P.2.2 := by
  have a1 := f.ceq
  have a2 := f.cfac
  exact ⟨sm_of f.wf.lens.1 f.eqs hb (by omega), sm_of f.wf.lens.2 f.fac hb (by omega)⟩
end FD
end
section
set_option Elab.async false
set_option linter.all false
set_option maxRecDepth 100000
set_option exponentiation.threshold 1000
/-! The plain law: the draws, and the law for every script. -/
namespace FD
open FM (Vec Gen K WF Bnd Lens Dirs GenB FacB Desc smul comb col Sat)
variable {n : Nat}
theorem dot_set0 : ∀ (n k : Nat) (i : Int) (v : List Int), v.length = n → k < n → FM.dot ((List.replicate n 0).set k i) v = i * col v k
  | 0, k, i, v, h, hk => by omega
  | n + 1, 0, i, [], h, _ => by simp at h
  | n + 1, 0, i, x :: v, h, _ => by
    rw [List.replicate_succ, List.set_cons_zero, FM.dot_cons, FM.dot_comm]
    have : FM.dot v (List.replicate n 0) = 0 := FM.dot_zeros v n
    rw [this]
    show i * x + 0 = i * x
    omega
  | n + 1, k + 1, i, [], h, _ => by simp at h
  | n + 1, k + 1, i, x :: v, h, hk => by
    rw [List.replicate_succ, List.set_cons_succ, FM.dot_cons, dot_set0 n k i v (by simpa using h) (by omega)]
    show 0 * x + i * col v k = i * col v k
    omega
/-- the low corner of a box -/
def boxV (ds : List Int) (at_ n : Nat) : List Int := 1 :: (List.range n).map fun k : Nat => dr ds ((at_ : Int) + (k : Nat)) % 4 - 1
theorem boxV_len (ds : List Int) (at_ n : Nat) : (boxV ds at_ n).length = n + 1 := by simp [boxV]
theorem box_point {ds : List Int} {at_ n : Nat} {c : List Int} (h : c ∈ boxM ds at_ n) : 0 ≤ FM.dot c (boxV ds at_ n) := by
  unfold boxM at h
  obtain ⟨k, hk, h⟩ := List.mem_flatMap.mp h
  rw [List.mem_range] at hk
  have e : ∀ i f : Int, FM.dot (unitM (n + 1) (1 + k) i f) (boxV ds at_ n) = f + i * (dr ds (at_ + k) % 4 - 1) := fun i f => by
    rw [unit_form]
    unfold boxV
    rw [FM.dot_cons, dot_set0 n k i _ (by simp) hk, col_mapR hk, Int.mul_one]
  unfold boxK at h
  rcases List.mem_cons.mp h with rfl | h
  · rw [e]; omega
  · split at h
    · obtain rfl := List.mem_singleton.mp h
      rw [e]
      have := Int.emod_nonneg (dr ds (at_ + k) / 20) (show (3 : Int) ≠ 0 by decide)
      omega
    · cases h
theorem box_some {ds : List Int} {at_ n m : Nat} : ∃ R, FM.polyhedron n ((boxM ds at_ n).take m) [] = some R := by
  refine FM.polyhedron_ok (v := boxV ds at_ n) (fun x hx => (box_row (List.mem_of_mem_take hx)).1) (fun x hx => nomatch hx) (boxV_len _ _ _) ⟨(fun e he => nomatch he), fun c hc => ?_⟩ (by show (1 : Int) ≠ 0; decide)
  rcases List.mem_append.mp hc with a | a
  · exact box_point (List.mem_of_mem_take a)
  · rw [List.mem_singleton.mp a, FM.dot_horizon (boxV_len _ _ _)]
    show (0 : Int) ≤ 1
    decide
/-! ### rates -/
theorem col_set0 {v : List Int} {j : Nat} {x : Int} (h : j ≠ 0) : col (v.set j x) 0 = col v 0 := by
  unfold col
  rw [List.getD_eq_getElem?_getD, List.getD_eq_getElem?_getD, List.getElem?_set_ne h]
theorem rate_ok (z : Int) (n fixed : Nat) : ∀ i, RateOk n (rateM z n fixed i)
  | 0 => ⟨rateM_len z n fixed 0, rfl, fun x hx => by
    unfold rateM at hx
    rcases List.mem_cons.mp hx with rfl | a
    · decide
    · rw [List.eq_of_mem_replicate a]; decide⟩
  | i + 1 => by
    have ih := rate_ok z n fixed i
    refine ⟨rateM_len z n fixed (i + 1), ?_, ?_⟩
    · unfold rateM
      rw [col_set0 (by omega)]
      exact ih.hd
    · unfold rateM
      intro x hx
      rcases List.mem_or_eq_of_mem_set hx with a | rfl
      · exact ih.bd x a
      · have := Int.emod_nonneg (z / (5 * ((fixed + i : Nat) : Int) + 1)) (show (5 : Int) ≠ 0 by decide)
        have := Int.emod_lt_of_pos (z / (5 * ((fixed + i : Nat) : Int) + 1)) (show (0 : Int) < 5 by decide)
        omega
theorem loc_rates {ds : List Int} {at_ n fixed : Nat} : (∀ r ∈ (locM ds at_ n fixed).2, RateOk n r) ∧ (locM ds at_ n fixed).2.length ≤ 2 := by
  unfold locM
  refine ⟨fun r hr => ?_, ?_⟩
  · obtain ⟨k, _, rfl⟩ := List.mem_map.mp hr
    exact rate_ok _ _ _ _
  · rw [List.length_map, List.length_range]
    have := Int.emod_nonneg (dr ds (at_ + 3)) (show (2 : Int) ≠ 0 by decide)
    have := Int.emod_lt_of_pos (dr ds (at_ + 3)) (show (0 : Int) < 2 by decide)
    omega
theorem loc_inv {ds : List Int} {at_ n fixed : Nat} (h : n = 1 ∨ n = 2) : InvB n (locM ds at_ n fixed).1 :=
  ⟨fun x hx => (loc_row hx).1, fun x hx => (loc_row hx).2, by have := loc_len ds at_ n fixed; omega⟩
theorem loc_dirs {ds : List Int} {at_ n fixed : Nat} : DirB n (dirsOf (locM ds at_ n fixed).2) := by
  obtain ⟨r, c⟩ := loc_rates (ds := ds) (at_ := at_) (n := n) (fixed := fixed)
  obtain ⟨a, b, d⟩ := dirs_spec r
  exact ⟨a, b, by omega⟩
/-! ### points of polyhedra that are described -/
theorem ptsOk {b k : Nat} {P : FM.Poly} (h : n = 1 ∨ n = 2) (d : Desc n b k P) (hb : 2 * b + 1 < 500) (hb2 : 4 * b + 3 < 800) (hk : k ≤ 80) : PtsOk n P := by
  have g := d.gens h
  have f := d.fac h
  obtain ⟨s1, s2⟩ := sm_fac f h hb2 (by omega)
  obtain ⟨_, _, ne, _⟩ := FM.gen_spec d.1
  have a1 := g.cnt
  have a2 := g.lin
  refine ⟨d.1.en, s1, s2, ?_, by omega, by rw [List.length_append]; omega, fun x hx => ⟨(g.sz x hx).1, bd_of (g.sz x hx).2 (pow_lt hb)⟩⟩
  rcases Nat.eq_zero_or_pos (FM.generators P).points.length with z | z
  · exact absurd (List.length_eq_zero_iff.mp z) ne
  · exact z
theorem waitOk {b : Nat} {S : Sys} {l : Loc} {p q : List Int} (h : S.n = 1 ∨ S.n = 2) (iD : DirB S.n (dirsOf l.2)) (hp : p.length = S.n + 1) (p0 : 0 < col p 0) (bp : Bnd (2 ^ b) p) (h1 : 1 ≤ b) (hb : b ≤ 390) : WaitOk S l p q := by
  obtain ⟨a, b, c, d⟩ := extOk_point h iD hp p0 bp h1 hb
  exact ⟨a, b, c, d⟩
theorem bd_big {a b : Nat} {v : List Int} (h : Bnd (2 ^ a) v) (e : a < b) : Bd b v := fun x hx => Nat.lt_of_le_of_lt (h x hx) (Nat.pow_lt_pow_right (by decide) e)
theorem sm_up {j k : Nat} {X : List (List Int)} (h : Sm n j X) (e : j ≤ k) : Sm n k X := ⟨h.len, h.bd, Nat.le_trans h.cnt e⟩
theorem sm_one {b : Nat} {q : List Int} (hq : q.length = n + 1) (bq : Bnd (2 ^ b) q) (hb : b < 800) : Sm n 50 [q] := sm_of (fun x hx => by rw [List.mem_singleton.mp hx]; exact hq) (fun x hx => by rw [List.mem_singleton.mp hx]; exact bq) hb (by simp)
/-- what holds at a point of the region -/
theorem stepOk {S : Sys} {l : Loc} {d : List Int} {R : FM.Poly} {p : List Int} (h : S.n = 1 ∨ S.n = 2) (i : InvB S.n l.1) (iD : DirB S.n (dirsOf l.2)) (hr : ∀ r ∈ l.2, RateOk S.n r) (c2 : l.2.length ≤ 2) (wR : WF S.n R)
    (kp : K S.n R p) (lp : p.length = S.n + 1) (p0 : 0 < col p 0) (bp : Bnd (2 ^ 17) p) : StepOk S l d (FM.stretched S.n l.1 R (dirsOf l.2)) p := by
  refine ⟨lp, bd_big bp (by decide), fun hp => ?_⟩
  have hp' := holdsB_iff.mp hp
  have nz : col p 0 ≠ 0 := by omega
  obtain ⟨gm, lm, m0, bm⟩ := moved_spec (draw := FM.col d 11) hr c2 lp p0 bp
  generalize movedM S.n l.2 p (FM.col d 11) = mv at *
  obtain ⟨Q, eQ, wQ, kQ, _⟩ := FM.stretched_ok i.len iD.dirs wR kp hp' nz (.ray (by simp)) hp'
  refine ⟨Q, eQ, (FM.hasPoint_K lp (by omega)).mpr kQ, lm, bd_big bm (by decide), fun hm => ?_⟩
  have hm' := holdsB_iff.mp hm
  obtain ⟨Q2, eQ2, _, _, kQ2⟩ := FM.stretched_ok i.len iD.dirs wR kp hp' nz gm hm'
  obtain rfl : Q2 = Q := Option.some.inj (eQ2.symm.trans eQ)
  obtain ⟨wm, sm⟩ := FM.point_spec lm m0
  have back := FM.turn_round lp lm iD.dirs m0 gm
  obtain ⟨B, eB, wB, _, kB⟩ := FM.stretched_ok i.len iD.negs.dirs wm ((sm mv).mpr (.ray (by simp))) hm' (by omega) back hp'
  obtain ⟨str, desc⟩ := strOk_point h i iD.negs lm m0 hm' bm (by decide) (by decide)
  obtain ⟨f1, f2⟩ := sm_fac ((desc B eB).fac h) h (by decide) (by decide)
  exact ⟨waitOk h iD lp p0 bp (by decide) (by decide), (FM.hasPoint_K lm (by omega)).mpr ((FM.reached lp p0 iD.dirs).mpr gm), (FM.hasPoint_K lm (by omega)).mpr kQ2, sm_one lm bm (by decide), str, B, eB, (FM.hasPoint_K lp (by omega)).mpr kB, sm_up f1 (by decide), sm_up f2 (by decide)⟩
/-- what holds at a point ahead -/
theorem backOk {S : Sys} {l : Loc} {R Q : FM.Poly} {q : List Int} (h : S.n = 1 ∨ S.n = 2) (i : InvB S.n l.1) (iD : DirB S.n (dirsOf l.2)) (dR : Desc S.n 3 4 R) (eQ : FM.stretched S.n l.1 R (dirsOf l.2) = some Q)
    (kq : K S.n Q q) (lq : q.length = S.n + 1) (q0 : 0 < col q 0) (bq : Bnd (2 ^ 65) q) : BackOk S l R q := by
  obtain ⟨hq, W, C, eW, wW, eC, wC, all⟩ := FM.stretched_back i.len iD.dirs dR.1 eQ kq q0
  obtain ⟨str, desc⟩ := strOk_point h i iD.negs lq q0 hq bq (by decide) (by decide)
  obtain ⟨pok, dC⟩ := meetOk h (dR.up (show 3 ≤ 2 * 65 + 1 by decide) (Nat.le_refl 4)) (desc W eW) (by decide) (by decide)
  have dC := dC C eC
  have g := dC.gens h
  obtain ⟨f1, f2⟩ := sm_fac (dC.fac h) h (by decide) (by decide)
  obtain ⟨_, gg, ne, pp, _⟩ := FM.gen_spec wC
  refine ⟨sm_one lq bq (by decide), str, ?_⟩
  cases e : (FM.generators C).points with
  | nil => exact absurd e ne
  | cons p ps =>
    have mp : p ∈ (FM.generators C).points := by rw [e]; simp
    obtain ⟨lp, bp⟩ := g.sz p (by simp [mp])
    have p0 := pp p mp
    have kp := (gg p).mp (.ray (by simp [mp]))
    obtain ⟨_, hp, gq⟩ := all p kp p0
    exact ⟨W, C, p, eW, pok, eC, wC.en, f1, f2, by rw [e]; rfl, bd_big bp (by decide), bd_big bq (by decide), holdsB_iff.mpr hp, holdsB_iff.mpr hq, waitOk h iD lp p0 bp (by decide) (by decide), (FM.hasPoint_K lq (by omega)).mpr ((FM.reached lp p0 iD.dirs).mpr gq)⟩
theorem col_digit {c base : Int} (hb : 0 < base) (m k : Nat) : 0 ≤ col (digits c base m) k := by
  unfold col
  rw [List.getD_eq_getElem?_getD]
  cases e : (digits c base m)[k]? with
  | none => exact Int.le_refl 0
  | some x => exact (digits_bd hb m x (List.mem_of_getElem? e)).1
/-- the law's facts hold at every script -/
theorem law_ok (ns : List Int) : ∃ S d i l R A, LawOk ns S d i l R A := by
  obtain ⟨s, es⟩ : ∃ s, s = digits (cellM ns 0) 2520 8 := ⟨_, rfl⟩
  obtain ⟨e, ee⟩ : ∃ e, e = digits (cellM ns 1) 27720 24 := ⟨_, rfl⟩
  obtain ⟨d, ed⟩ : ∃ d, d = digits (cellM ns 2) 27720 12 := ⟨_, rfl⟩
  have dn : ∀ k, 0 ≤ col d k := fun k => by rw [ed]; exact col_digit (by decide) 12 k
  obtain ⟨S, eS⟩ : ∃ S, S = sysM s e := ⟨_, rfl⟩
  have n12 : S.n = 1 ∨ S.n = 2 := by
    rw [eS]
    show sysN s = 1 ∨ sysN s = 2
    unfold sysN
    omega
  have len : S.locs.length = sysC s := by rw [eS]; simp [sysM]
  have c1 : 0 < sysC s := by unfold sysC; omega
  have m0 := Int.emod_nonneg (col d 8) (show (S.locs.length : Int) ≠ 0 by omega)
  have m1 := Int.emod_lt_of_pos (col d 8) (show (0 : Int) < (S.locs.length : Int) by omega)
  obtain ⟨i, ei⟩ : ∃ i : Nat, i = (col d 8 % (S.locs.length : Nat)).toNat := ⟨_, rfl⟩
  obtain ⟨l, el⟩ : ∃ l, l = locM e (6 * i) S.n (sysF s) := ⟨_, rfl⟩
  have il : InvB S.n l.1 := by rw [el]; exact loc_inv n12
  have iD : DirB S.n (dirsOf l.2) := by rw [el]; exact loc_dirs
  obtain ⟨hr, c2⟩ : (∀ r ∈ l.2, RateOk S.n r) ∧ l.2.length ≤ 2 := by rw [el]; exact loc_rates
  obtain ⟨R, eR⟩ := box_some (ds := d) (at_ := 0) (n := S.n) (m := (1 + col d 9 % 4).toNat)
  have lB : Lens (S.n + 1) ((boxM d 0 S.n).take (1 + col d 9 % 4).toNat) := fun x hx => (box_row (List.mem_of_mem_take hx)).1
  have bB : ∀ x ∈ (boxM d 0 S.n).take (1 + col d 9 % 4).toNat, Bnd (2 ^ 3) x := fun x hx => (box_row (List.mem_of_mem_take hx)).2
  have cB : ((boxM d 0 S.n).take (1 + col d 9 % 4).toNat).length ≤ 4 := by
    have := box_len d 0 S.n
    rw [List.length_take]
    omega
  have dR : Desc S.n 3 4 R := Desc.poly lB bB cB eR
  obtain ⟨str, desc⟩ := strOk n12 il dR iD (by decide) (by decide) (by decide)
  refine ⟨S, d, i, l, R, FM.stretched S.n l.1 R (dirsOf l.2), ?_⟩
  constructor
  case sys => rw [eS, es, ee]
  case dr => exact ed
  case boxes => exact fun n k hn hk => polyOk1 hn (fun x hx => (box_row hx).1) (b := 3) (fun x hx => (box_row hx).2) (by have := box_len (digits (cellM ns 1) 27720 24) (18 + 2 * k) n; omega) (by decide)
  case n12 => exact n12
  case ne => omega
  case loc => rw [ei]; omega
  case hl =>
    rw [el, eS]
    show ((List.range (sysC s)).map fun k => locM e (6 * k) (sysN s) (sysF s))[i]? = _
    rw [List.getElem?_map, List.getElem?_range (by omega)]
    rfl
  case lok => exact ⟨fun c hc => ⟨by rw [il.len c hc]; omega, bd_big (il.bd c hc) (by decide)⟩, by have := il.cnt; omega, fun r hr' => ⟨by rw [(hr r hr').len]; omega, bd_big (a := 1) (hr r hr').bd (by decide)⟩, by omega⟩
  case rates => exact ⟨fun r hr' => ⟨(hr r hr').len, bd_big (a := 1) (hr r hr').bd (by decide), by rw [(hr r hr').hd]; decide⟩, by omega⟩
  case inv => exact fun c hc => ⟨bd_big (il.bd c hc) (by decide), il.len c hc⟩
  case regok => exact polyOk1 n12 lB bB (by omega) (by decide)
  case reg => exact eR
  case str => exact str
  case ahead => rfl
  case pts => exact ptsOk n12 dR (by decide) (by decide) (by decide)
  case steps =>
    intro p hp
    obtain ⟨kp, lp, p0, bp⟩ := points_spec dR.1 (dR.gens n12) (dn 10) (List.mem_of_mem_take hp)
    exact stepOk n12 il iD hr c2 dR.1 kp lp p0 bp
  case again =>
    intro Q eQ
    have dQ := desc Q eQ
    obtain ⟨f1, f2⟩ := sm_fac (dQ.fac n12) n12 (by decide) (by decide)
    refine ⟨f1, f2, (strOk n12 il dQ iD (by decide) (by decide) (by decide)).1, FM.stretched_fix il.len iD.dirs dR.1 eQ, ptsOk n12 dQ (by decide) (by decide) (by decide), fun q hq => ?_⟩
    obtain ⟨kq, lq, q0, bq⟩ := points_spec dQ.1 (dQ.gens n12) (dn 11) (List.mem_of_mem_take hq)
    exact backOk n12 il iD dR eQ kq lq q0 bq
end FD
end
section
set_option Elab.async false
set_option linter.all false
set_option maxRecDepth 100000
set_option maxHeartbeats 0
/-! the head: each def keeps its promise at the head's heap -/
namespace FH
open PySem PySem.Spec PyProof.Rows L2 LamX FW FT FK FD
theorem unitB_ok {K : PySem.W.Frag} {a : Addr} (h : unitB K a = true) (H : Hp) : SqT K H a [] := by
  unfold unitB at h
  cases q : K.lookup a with
  | none => rw [q] at h; cases h
  | some o =>
    obtain ⟨oc, od, dt, osl⟩ := o
    rw [q] at h
    cases oc with
    | type c =>
      cases dt with
      | seq its n =>
        obtain ⟨h1, h2⟩ := He.ba (show (decide (c = "tuple") && its.isEmpty) = true from h)
        have e : its = #[] := Array.isEmpty_iff.mp h2
        exact .inr ⟨_, its, n, q, congrArg Value.type (of_decide_eq_true h1), rfl, by rw [e]; decide, by rw [e]; exact .nil⟩
      | _ => cases h
    | _ => cases dt <;> cases h
section
variable {w : World} {K : PySem.W.Frag} {h : Heap} {mg : Str → Option Value}
theorem has_of (c : He.SaysD fa fn K) (X : K.In h) (G : h.Ns mainGlobals mg) {x : Str} {i k j : Nat} (hd : fn[k]? = some (nd x i)) (hf : fa[j]? = some (.glo x)) : Has K mg x (top i) := by
  obtain ⟨fd, F⟩ := c.def_ k hd
  exact ⟨_, fd, F, He.glo_ok X G (c.fact j hf)⟩
theorem hasM_of (c : He.SaysD fa fn K) {x q : Str} {i k j : Nat} (hd : fn[k]? = some (nm x q i)) (hf : fa[j]? = some (.meth "Builder" x)) : HasM K (He.ga K "Builder") x q (inClass (top 15) i) := by
  obtain ⟨fd, F⟩ := c.def_ k hd
  exact ⟨_, fd, F, He.meth_ok (c.fact j hf)⟩
theorem hasDf_of (c : He.SaysD fa fn K) (X : K.In h) (G : h.Ns mainGlobals mg) {x : Str} {i k j d : Nat} (hd : fn[k]? = some (nf x i d)) (hf : fa[j]? = some (.glo x)) (d0 : 0 < d) (u : ∀ j, j < d → unitB K (He.dflAt (x, none) j K) = true) : HasDf K mg x (top i) d := by
  obtain ⟨fd, F⟩ := c.def_ k hd
  have e : (nf x i d).dvs K = (List.range d).map fun j => V.ref (He.dflAt (x, none) j K) := by
    show ((List.range d).map fun j => He.Dv.adr (He.dflAt (x, none) j)).map (He.Dv.v K) = _
    rw [List.map_map]; rfl
  have F2 : FunD K x x (defArgs (top i)) (defBody (top i)) (defScope (top i)) ((nf x i d).dvs K) [] _ fd := F
  rw [e] at F2
  refine ⟨_, fd, _, F2, He.glo_ok X G (c.fact j hf), by simp, fun z => ?_, fun v hv => ?_⟩
  · have := congrArg List.length z
    simp at this
    omega
  · obtain ⟨j, hj, rfl⟩ := List.mem_map.mp hv
    exact ⟨_, rfl, unitB_ok (u j (List.mem_range.mp hj))⟩
theorem hasC_of (c : He.SaysD fa fn K) (X : K.In h) (G : h.Ns mainGlobals mg) {x : Str} {i k j : Nat} (hd : fn[k]? = some (nd x i)) (hf : fa[j]? = some (.glo x)) : HasC K mg x (top i) (He.codeOf K (x, none)) := by
  obtain ⟨fd, F⟩ := c.def_ k hd
  obtain ⟨oc, od, dV, kV, doc, pm, an, cdv, ct, osl, e, lk, hcd, hD, hK⟩ := F.ex
  have hD2 : dV = .none := by
    rcases hD with ⟨_, z⟩ | ⟨z, _⟩
    · exact z
    · exact absurd rfl z
  obtain ⟨cc, ec⟩ := He.codeIn_ref hcd
  subst hD2 ec
  have cq : He.codeOf K (x, none) = cc := He.codeOf_eq (p := (x, none)) lk (by rw [e])
  rw [cq]
  exact ⟨_, ⟨oc, od, kV, doc, pm, an, ct, osl, by rw [e] at lk; exact lk⟩, hcd, F.kp, He.glo_ok X G (c.fact j hf)⟩
end
theorem facts {w : World} {K : PySem.W.Frag} {h : Heap} {mg : Str → Option Value} {fa0 : Addr} (X : K.In h) (G : h.Ns mainGlobals mg) (hfa : mg ("law" : Str) = some (.ref fa0)) (cx : He.SaysX fa fn [] tf ex w h K) :
    LawAtS PySem.Challenge.rw_floodmark_k41_whole_waits_reach_exactly w K CX0 18 63 "_law_script" mg fa0 h := by
  have c := cx.t.d
  obtain ⟨x1, x2⟩ := He.ba cx.more
  obtain ⟨x2, x3⟩ := He.ba x2
  obtain ⟨x3, x4⟩ := He.ba x3
  have m_gcd : mg "gcd" = some (.builtin "math.gcd") := PySem.W.mg_of X G (He.eqO_ok x1)
  obtain ⟨t, m_MAX_VARIABLES⟩ := He.int_ok X G (c.fact 57 (f := .int "MAX_VARIABLES" 8) rfl)
  have m_Builder := He.glo_ok X G (c.fact 44 (f := .glo "Builder") rfl)
  have mkB := He.mkr_ok (c.fact 67 (f := .mkr "Builder") rfl)
  have cB : ClsB K (He.ga K "Builder") := ⟨He.cls_ok (c.fact 58 (f := .cls "Builder") rfl), He.noat_ok (c.fact 59 (f := .noat "Builder" "lines") rfl), He.noat_ok (c.fact 60 (f := .noat "Builder" "rays") rfl), He.noat_ok (c.fact 61 (f := .noat "Builder" "count") rfl)⟩
  obtain ⟨b1, b2, b3, b4⟩ := He.exc_ok (c.fact 68 (f := .exc "BadRun") rfl)
  have B : BadB K mg (He.ga K "BadRun") := ⟨b1, He.glo_ok X G (c.fact 45 (f := .glo "BadRun") rfl), b2, b3, b4, He.exm_ok (c.fact 69 (f := .exm "BadRun" "BadRun" true) rfl)⟩
  have m_list := He.free_ok X G (c.fact 46 (f := .free "list") rfl)
  have m_len := He.free_ok X G (c.fact 47 (f := .free "len") rfl)
  have m_range := He.free_ok X G (c.fact 48 (f := .free "range") rfl)
  have m_zip := He.free_ok X G (c.fact 49 (f := .free "zip") rfl)
  have m_sum := He.free_ok X G (c.fact 50 (f := .free "sum") rfl)
  have m_all := He.free_ok X G (c.fact 51 (f := .free "all") rfl)
  have m_any := He.free_ok X G (c.fact 52 (f := .free "any") rfl)
  have m_enumerate := He.free_ok X G (c.fact 53 (f := .free "enumerate") rfl)
  have m_sorted := He.free_ok X G (c.fact 54 (f := .free "sorted") rfl)
  have m_abs := He.free_ok X G (c.fact 55 (f := .free "abs") rfl)
  have m_int := He.free_ok X G (c.fact 56 (f := .free "int") rfl)
  have h_common_divisor : Has K mg "common_divisor" (top 6) := has_of c X G (k := 0) (j := 0) rfl rfl
  have h_primitive : Has K mg "primitive" (top 7) := has_of c X G (k := 1) (j := 1) rfl rfl
  have h_dot : Has K mg "dot" (top 8) := has_of c X G (k := 2) (j := 2) rfl rfl
  have h_combined : Has K mg "combined" (top 9) := has_of c X G (k := 3) (j := 3) rfl rfl
  have h_pivot_of : Has K mg "pivot_of" (top 10) := has_of c X G (k := 4) (j := 4) rfl rfl
  have h_cleared : Has K mg "cleared" (top 11) := has_of c X G (k := 5) (j := 5) rfl rfl
  have h_reduced : Has K mg "reduced" (top 13) := has_of c X G (k := 7) (j := 7) rfl rfl
  have h_echelon : HasC K mg "echelon" (top 12) (He.codeOf K ("echelon", none)) := hasC_of c X G (k := 6) (j := 6) rfl rfl
  have h_Builder__init_ : HasM K (He.ga K "Builder") "__init__" "Builder.__init__" (inClass (top 15) 0) := hasM_of c (k := 44) (j := 62) rfl rfl
  have h_Builder_turn_line : HasM K (He.ga K "Builder") "turn_line" "Builder.turn_line" (inClass (top 15) 1) := hasM_of c (k := 45) (j := 63) rfl rfl
  have h_Builder_are_neighbours : HasM K (He.ga K "Builder") "are_neighbours" "Builder.are_neighbours" (inClass (top 15) 4) := hasM_of c (k := 48) (j := 66) rfl rfl
  have h_Builder_joined : HasM K (He.ga K "Builder") "joined" "Builder.joined" (inClass (top 15) 3) := hasM_of c (k := 47) (j := 65) rfl rfl
  have h_Builder_add : HasM K (He.ga K "Builder") "add" "Builder.add" (inClass (top 15) 2) := hasM_of c (k := 46) (j := 64) rfl rfl
  have h_dual : Has K mg "dual" (top 16) := has_of c X G (k := 8) (j := 8) rfl rfl
  have h_check_count : Has K mg "check_count" (top 19) := has_of c X G (k := 9) (j := 9) rfl rfl
  have h_horizon : Has K mg "horizon" (top 20) := has_of c X G (k := 10) (j := 10) rfl rfl
  have h_settled : Has K mg "settled" (top 21) := has_of c X G (k := 11) (j := 11) rfl rfl
  have h_polyhedron : HasDf K mg "polyhedron" (top 22) 1 := hasDf_of c X G (k := 12) (j := 12) rfl rfl (by decide) (fun j hj => match j, hj with | 0, _ => x2)
  have h_generators : Has K mg "generators" (top 23) := has_of c X G (k := 13) (j := 13) rfl rfl
  have h_spanned : HasDf K mg "spanned" (top 24) 2 := hasDf_of c X G (k := 14) (j := 14) rfl rfl (by decide) (fun j hj => match j, hj with | 0, _ => x3 | 1, _ => x4)
  have h_has_point : Has K mg "has_point" (top 25) := has_of c X G (k := 15) (j := 15) rfl rfl
  have h_meet : Has K mg "meet" (top 26) := has_of c X G (k := 16) (j := 16) rfl rfl
  have h_extended : Has K mg "extended" (top 27) := has_of c X G (k := 17) (j := 17) rfl rfl
  have h_location_at : Has K mg "location_at" (top 29) := has_of c X G (k := 18) (j := 18) rfl rfl
  have h_invariant_of : Has K mg "invariant_of" (top 30) := has_of c X G (k := 19) (j := 19) rfl rfl
  have h_directions_of : Has K mg "directions_of" (top 31) := has_of c X G (k := 20) (j := 20) rfl rfl
  have h_inside : Has K mg "inside" (top 33) := has_of c X G (k := 21) (j := 21) rfl rfl
  have h_stretched : Has K mg "stretched" (top 34) := has_of c X G (k := 22) (j := 22) rfl rfl
  have h_wait_forward : Has K mg "wait_forward" (top 35) := has_of c X G (k := 23) (j := 23) rfl rfl
  have h_wait_backward : Has K mg "wait_backward" (top 36) := has_of c X G (k := 24) (j := 24) rfl rfl
  have h_is_state : Has K mg "is_state" (top 38) := has_of c X G (k := 25) (j := 25) rfl rfl
  have h_require : Has K mg "require" (top 40) := has_of c X G (k := 26) (j := 26) rfl rfl
  have h_after_wait : Has K mg "after_wait" (top 41) := has_of c X G (k := 27) (j := 27) rfl rfl
  have h_leads_to : Has K mg "leads_to" (top 43) := has_of c X G (k := 28) (j := 28) rfl rfl
  have h__law_cell : Has K mg "_law_cell" (top 45) := has_of c X G (k := 29) (j := 29) rfl rfl
  have h__law_digits : Has K mg "_law_digits" (top 46) := has_of c X G (k := 30) (j := 30) rfl rfl
  have h__law_dot : Has K mg "_law_dot" (top 47) := has_of c X G (k := 31) (j := 31) rfl rfl
  have h__law_unit : Has K mg "_law_unit" (top 49) := has_of c X G (k := 33) (j := 33) rfl rfl
  have h__law_same : Has K mg "_law_same" (top 51) := has_of c X G (k := 35) (j := 35) rfl rfl
  have h__law_primitive : Has K mg "_law_primitive" (top 48) := has_of c X G (k := 32) (j := 32) rfl rfl
  have h__law_holds : Has K mg "_law_holds" (top 56) := has_of c X G (k := 40) (j := 40) rfl rfl
  have h__law_box : Has K mg "_law_box" (top 53) := has_of c X G (k := 37) (j := 37) rfl rfl
  have h__law_location : Has K mg "_law_location" (top 50) := has_of c X G (k := 34) (j := 34) rfl rfl
  have h__law_jump : Has K mg "_law_jump" (top 52) := has_of c X G (k := 36) (j := 36) rfl rfl
  have h__law_waits : Has K mg "_law_waits" (top 58) := has_of c X G (k := 42) (j := 42) rfl rfl
  have h__law_moved : Has K mg "_law_moved" (top 57) := has_of c X G (k := 41) (j := 41) rfl rfl
  have h__law_points : Has K mg "_law_points" (top 55) := has_of c X G (k := 39) (j := 39) rfl rfl
  have h__law_system : Has K mg "_law_system" (top 54) := has_of c X G (k := 38) (j := 38) rfl rfl
  obtain ⟨fd, F⟩ := c.def_ 43 (d := nd "law" 59) rfl
  have e0 := hfa.symm.trans (He.glo_ok X G (c.fact 43 (f := .glo "law") rfl))
  have ef : fa0 = He.fAd K ("law", none) := by cases e0; rfl
  subst ef
  have mt : ((("echelon" : Str), (none : Option Str)) : He.Defn) ∈ tf := by unfold tf; exact List.mem_singleton.mpr rfl
  obtain ⟨T, eT⟩ : ∃ T : List (Addr × Str), T = [((He.cT K ("echelon", none)).2, ("echelon.<locals>.<lambda>" : Str))] := ⟨_, rfl⟩
  have hmT : ((He.cT K ("echelon", none)).2, ("echelon.<locals>.<lambda>" : Str)) ∈ T := by rw [eT]; exact List.mem_singleton.mpr rfl
  have huT : ∀ p ∈ T, p.1 = (He.cT K ("echelon", none)).2 → p.2 = ("echelon.<locals>.<lambda>" : Str) := fun p hp _ => by rw [eT] at hp; rw [List.mem_singleton.mp hp]
  have b := FunD.bindsA (ps := ["_law_script"]) F fun _ _ _ _ _ _ us hl => match us, hl with | [_], _ => rfl
  refine ⟨fd, [He.cT K ("echelon", none)], SpLaw K T, fun p hp => ?_, fun p hp => ?_, fun p hp => ?_, fun s u => b s [u] rfl, fun H a ns hl _ hT hS => ?_, fun base Xb Gb TBs => ?_⟩
  · rw [List.mem_singleton.mp hp]; exact cx.empty _ mt
  · rw [List.mem_singleton.mp hp]; exact cx.out _ mt
  · rw [List.mem_singleton.mp hp]; exact PySem.W.codeHd_of_K X (cx.hd _ mt)
  · obtain ⟨S, d, i, l, R, A, ok⟩ := law_ok ns
    exact ⟨a, ns, S, d, i, l, R, A, rfl, hS, fun p hp => by rw [eT] at hp; rw [List.mem_singleton.mp hp]; exact TabS.nil (hT _ (List.mem_singleton.mpr rfl)), ok, fun _ => rfl⟩
  have TB : TabB base mg (He.codeOf K ("echelon", none)) (He.cT K ("echelon", none)).2 := TBs (He.cT K ("echelon", none)) (List.mem_singleton.mpr rfl)
  generalize PySem.Challenge.rw_floodmark_k41_whole_waits_reach_exactly.prog = P
  have e_common_divisor : Dn P w K mg base 1 "common_divisor" ["vector"] (SpD K T 1 F_common_divisor) := D_common_divisor h_common_divisor m_gcd
  have e_primitive : Dn P w K mg base 2 "primitive" ["vector"] (SpD K T 1 F_primitive) := D_primitive h_primitive e_common_divisor m_list
  have e_dot : Dn P w K mg base 1 "dot" ["first", "second"] (SpD K T 2 F_dot) := D_dot h_dot m_zip m_sum
  have e_combined : Dn P w K mg base 1 "combined" ["first", "vector", "second", "other"] (SpD K T 4 F_combined) := D_combined h_combined m_zip
  have e_pivot_of : Dn P w K mg base 1 "pivot_of" ["vector"] (SpD K T 1 F_pivot_of) := D_pivot_of h_pivot_of m_range m_len
  have e_cleared : Dn P w K mg base 3 "cleared" ["vector", "row", "column"] (SpD K T 3 F_cleared) := D_cleared h_cleared e_primitive e_combined
  have e_reduced : Dn P w K mg base 4 "reduced" ["vector", "rows"] (SpD K T 2 F_reduced) := D_reduced h_reduced e_primitive e_cleared e_pivot_of
  have e_echelon : Dn P w K mg base 9 "echelon" ["rows"] (SpD K T 1 F_echelon) := D_echelon h_echelon TB hmT huT e_primitive e_cleared e_pivot_of m_list m_len m_sorted
  have e_init : Mn P w K mg base 1 (He.ga K "Builder") "__init__" ["self", "size"] (SpM K T (He.ga K "Builder") 1 F_init) := D_init h_Builder__init_ cB m_range
  have e_turn_line : Mn P w K mg base 3 (He.ga K "Builder") "turn_line" ["self", "condition"] (SpM K T (He.ga K "Builder") 1 F_turn_line) := D_turn_line h_Builder_turn_line cB e_primitive e_combined e_dot m_enumerate
  have e_are : Mn P w K mg base 1 (He.ga K "Builder") "are_neighbours" ["self", "one", "other", "shared"] (SpO K T (He.ga K "Builder") 3 F_are) := D_are h_Builder_are_neighbours cB
  have e_joined : Mn P w K mg base 3 (He.ga K "Builder") "joined" ["self", "positive", "negative", "bit"] (SpO K T (He.ga K "Builder") 3 F_joined) := D_joined h_Builder_joined cB e_primitive e_combined e_are
  have e_add : Mn P w K mg base 4 (He.ga K "Builder") "add" ["self", "condition", "exact"] (SpM K T (He.ga K "Builder") 2 F_add) := D_add h_Builder_add cB e_turn_line e_joined e_dot
  have e_dual : Dn P w K mg base 11 "dual" ["equations", "conditions", "size"] (SpD K T 3 F_dual) := D_dual h_dual m_Builder mkB cB e_init e_add e_echelon e_reduced m_sorted
  have e_check : Dn P w K mg base 1 "check_count" ["n"] (SpD K T 1 F_check) := D_check h_check_count m_MAX_VARIABLES
  have e_horizon : Dn P w K mg base 1 "horizon" ["n"] (SpD K T 1 F_horizon) := D_horizon h_horizon
  have e_settled : Dn P w K mg base 12 "settled" ["n", "lines", "rays"] (SpD K T 3 F_settled) := D_settled h_settled e_dual e_horizon
  have e_polyhedron : DnD P w K mg base 13 "polyhedron" ["n", "conditions", "equations"] (SpD K T 3 F_polyhedron) 1 := D_polyhedron h_polyhedron e_dual e_horizon e_check e_settled m_list m_all
  have e_generators : Dn P w K mg base 12 "generators" ["region"] (SpD K T 1 F_generators) := D_generators h_generators e_dual e_horizon
  have e_spanned : DnD P w K mg base 13 "spanned" ["n", "points", "rays", "lines"] (SpD K T 4 F_spanned) 2 := D_spanned h_spanned e_check e_settled m_list m_len
  have e_has_point : Dn P w K mg base 2 "has_point" ["region", "point"] (SpD K T 2 F_has_point) := D_has_point h_has_point e_dot m_all
  have e_meet : Dn P w K mg base 14 "meet" ["region", "other"] (SpD K T 2 F_meet) := D_meet h_meet e_polyhedron
  have e_extended : Dn P w K mg base 14 "extended" ["region", "directions"] (SpD K T 2 F_extended) := D_extended h_extended e_generators e_spanned m_list
  have e_location_at : Dn P w K mg base 1 "location_at" ["system", "location"] (SpD K T 2 F_location_at) := D_location_at h_location_at m_len
  have e_invariant_of : Dn P w K mg base 14 "invariant_of" ["system", "location"] (SpD K T 2 F_invariant_of) := D_invariant_of h_invariant_of e_location_at e_polyhedron
  have e_directions_of : Dn P w K mg base 3 "directions_of" ["system", "location"] (SpD K T 2 F_directions_of) := D_directions_of h_directions_of e_location_at e_primitive m_any
  have e_inside : Dn P w K mg base 15 "inside" ["system", "location", "region"] (SpD K T 3 F_inside) := D_inside h_inside e_invariant_of e_meet
  have e_stretched : Dn P w K mg base 16 "stretched" ["system", "location", "region", "directions"] (SpD K T 4 F_stretched) := D_stretched h_stretched e_inside e_extended
  have e_forward : Dn P w K mg base 17 "wait_forward" ["system", "location", "region"] (SpD K T 3 F_forward) := D_forward h_wait_forward e_stretched e_directions_of
  have e_backward : Dn P w K mg base 17 "wait_backward" ["system", "location", "region"] (SpD K T 3 F_backward) := D_backward h_wait_backward e_stretched e_directions_of
  have e_is_state : Dn P w K mg base 2 "is_state" ["system", "state"] (SpD K T 2 F_is_state) := D_is_state h_is_state e_dot m_all m_len
  have e_require : Xn P w K mg base 1 "require" ["holds"] (SpX K T (He.ga K "BadRun") 1 F_require) := D_require h_require B
  have e_after_wait : Xn P w K mg base 15 "after_wait" ["system", "state", "point"] (SpX K T (He.ga K "BadRun") 3 F_after_wait) := D_after_wait h_after_wait e_require e_is_state e_extended e_directions_of e_spanned e_has_point m_list
  have e_leads_to : Xn P w K mg base 16 "leads_to" ["system", "state", "step"] (SpX K T (He.ga K "BadRun") 3 F_leads_to) := D_leads_to h_leads_to e_require e_is_state e_after_wait
  have e_cell : Dn P w K mg base 1 "_law_cell" ["_law_script", "_law_k"] (SpD K T 2 F_cell) := D_cell h__law_cell m_len m_abs m_int
  have e_digits : Dn P w K mg base 1 "_law_digits" ["_law_cell_here", "_law_base", "_law_most"] (SpD K T 3 F_digits) := D_digits h__law_digits m_range m_int
  have e_ldot : Dn P w K mg base 1 "_law_dot" ["_law_first", "_law_second"] (SpD K T 2 F_ldot) := D_ldot h__law_dot m_range m_sum m_len
  have e_unit : Dn P w K mg base 1 "_law_unit" ["_law_size", "_law_column", "_law_item", "_law_first"] (SpD K T 4 F_unit) := D_unit h__law_unit
  have e_same : Dn P w K mg base 1 "_law_same" ["_law_n", "_law_k"] (SpD K T 2 F_same) := D_same h__law_same
  have e_lprim : Dn P w K mg base 1 "_law_primitive" ["_law_vector"] (SpD K T 1 F_lprim) := D_lprim h__law_primitive m_range m_abs m_int m_list
  have e_lholds : Dn P w K mg base 2 "_law_holds" ["_law_conditions", "_law_point"] (SpD K T 2 F_lholds) := D_lholds h__law_holds e_ldot
  have e_box : Dn P w K mg base 2 "_law_box" ["_law_draws", "_law_at", "_law_n"] (SpD K T 3 F_box) := D_box h__law_box e_unit m_range m_len
  have e_location : Dn P w K mg base 2 "_law_location" ["_law_draws", "_law_at", "_law_n", "_law_fixed"] (SpD K T 4 F_location) := D_location h__law_location e_unit m_range m_len
  have e_unitN : Dn P w K mg base 1 "_law_unit" ["_law_size", "_law_column", "_law_item", "_law_first"] (SpN K T 4 F_unitN) := D_unitN h__law_unit
  have e_sameS : Dn P w K mg base 1 "_law_same" ["_law_n", "_law_k"] (SpS K T 2 F_sameS) := D_sameS h__law_same
  have e_jump : Dn P w K mg base 2 "_law_jump" ["_law_draws", "_law_at", "_law_n", "_law_fixed", "_law_count"] (SpD K T 5 F_jump) := D_jump h__law_jump e_unitN e_sameS m_range m_len
  have e_waits : Dn P w K mg base 17 "_law_waits" ["_law_system_here", "_law_location_here", "_law_point", "_law_other"] (SpD K T 4 F_waits) := D_waits h__law_waits B e_leads_to
  have e_moved : Dn P w K mg base 2 "_law_moved" ["_law_system_here", "_law_location_here", "_law_point", "_law_draw"] (SpD K T 4 F_moved) := D_moved h__law_moved e_lprim m_range m_len m_int
  have e_points : Dn P w K mg base 2 "_law_points" ["_law_told", "_law_n", "_law_draw"] (SpD K T 3 F_points) := D_points h__law_points e_lprim m_range m_len m_list
  have e_system : Dn P w K mg base 14 "_law_system" ["_law_first", "_law_second", "_law_parameter"] (SpD K T 3 F_system) := D_system h__law_system e_digits e_location e_jump e_box e_polyhedron m_range
  have e_cellS : Dn P w K mg base 1 "_law_cell" ["_law_script", "_law_k"] (SpCell K) := D_cellS h__law_cell m_len m_abs m_int
  exact D_law F e_cellS e_digits e_system e_box e_polyhedron e_forward e_backward e_points e_generators e_lholds e_has_point e_moved e_waits e_spanned e_meet m_len
end FH
end
set_option Elab.async false
set_option linter.all false
set_option maxRecDepth 100000
set_option maxHeartbeats 0
open PySem PySem.W PySem.Calls PyProof.Rows
theorem PySem.Challenge.cw_floodmark_k41_whole_waits_reach_exactly_holds : PySem.Challenge.rw_floodmark_k41_whole_waits_reach_exactly.Holds := by
  w_on; o_law
  refine HandSHeadRun.head_imp (r := OpenLaw.row PySem.Challenge.rw_floodmark_k41_whole_waits_reach_exactly) (q := view (OpenLaw.row PySem.Challenge.rw_floodmark_k41_whole_waits_reach_exactly).prog [0, 59]) (H := FH.hk) (ob := FH.ob) (M := 4000) (loose := FH.names) (d := HandSHeadRun.topDef (OpenLaw.row PySem.Challenge.rw_floodmark_k41_whole_waits_reach_exactly).prog 59) (kwd := []) FH.ob_eq FH.run
    (by kernel_rfl) (by kernel_rfl) (by kernel_rfl) (by rfl) (by first | assumption | decide +kernel) (by decide +kernel) ⟨rfl, rfl, rfl, rfl, rfl, by decide +kernel⟩ ?hw ?hc
  case hw => w_witness2
  case hc =>
    refine LamX.walk_ofTsE (l := PySem.Challenge.rw_floodmark_k41_whole_waits_reach_exactly) (n := 63) (k := 18) (x := "_law_script") (CX := fun _ => L2.CX0) rfl (by decide) (by kernel_rfl) ⟨rfl, by decide, by decide⟩ ?F (fun _ _ _ _ _ z => z)
    intro w mg fa h Y G hmg0
    obtain ⟨K, KX, c⟩ := Y
    have hmg : mg ("law" : PySem.Str) = some (.ref fa) := by
      have e : (HandSHeadRun.topDef (OpenLaw.row PySem.Challenge.rw_floodmark_k41_whole_waits_reach_exactly).prog 59).name = ("law" : PySem.Str) := by kernel_rfl
      rw [← e]
      exact hmg0
    exact ⟨K, KX, FH.facts KX G hmg c⟩
