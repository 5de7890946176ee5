import PyProof.Rows.All
import Wide.All
import OpenK.AllK
import Wide.FinOn
import KE.KStateDown
import Lean
import HandS.ForMost
import HandS.WordsExc
import HandS.Defaults
import HandS.Head0
import HandS.Head1
import HandS.Head2
import HandS.HeadEnd
import HandS.HeadHook1
import HandS.HeadHook2
import HandS.Conv
import HandS.IsInst
import HandS.Style
import HandS.SortKw
import HandS.SetFor
import HandS.Zip
import KE.SortKeyHeap
import PyProof.Rows.ChunkLeaf
import PySem.Challenge.RW_stillspans_k46_whole_turned_towers
set_option linter.all false
namespace Still
/-! the primes, their rests -/
inductive Pm | p2 | p3 | p5 | p7 | p11
  deriving DecidableEq
def Pm.n : Pm → Nat | .p2 => 2 | .p3 => 3 | .p5 => 5 | .p7 => 7 | .p11 => 11
theorem Pm.pos (q : Pm) : 2 ≤ q.n ∧ q.n ≤ 11 := by cases q <;> decide
instance (q : Pm) : NeZero q.n := ⟨by cases q <;> decide⟩
abbrev Fq (q : Pm) : Type := Fin q.n
def finv {q : Pm} (a : Fq q) : Fq q := ((List.finRange q.n).find? fun b => decide (a * b = 1)).getD 0
theorem finv_mul {q : Pm} (a : Fq q) (h : a ≠ 0) : a * finv a = 1 := by
  revert a; cases q <;> decide
instance (q : Pm) : Lean.Grind.CommRing (Fq q) := inferInstance
class Fd (F : Type) [Lean.Grind.CommRing F] where
  inv : F → F
  mul_inv : ∀ a : F, a ≠ 0 → a * inv a = 1
  ne : (1 : F) ≠ 0
instance (q : Pm) : Fd (Fq q) := ⟨finv, finv_mul, by cases q <;> decide⟩
/-! an element as a whole number -/
def vl {q : Pm} (a : Fq q) : Int := (a.val : Int)
theorem vl_lo {q : Pm} (a : Fq q) : 0 ≤ vl a := Int.natCast_nonneg _
theorem vl_hi {q : Pm} (a : Fq q) : vl a < q.n := by unfold vl; exact_mod_cast a.isLt
theorem vl_inj {q : Pm} {a b : Fq q} (h : vl a = vl b) : a = b := by
  unfold vl at h; exact Fin.ext (by exact_mod_cast h)
theorem vl_zero {q : Pm} : vl (0 : Fq q) = 0 := by cases q <;> rfl
theorem vl_one {q : Pm} : vl (1 : Fq q) = 1 := by cases q <;> rfl
theorem vl_add {q : Pm} (a b : Fq q) : vl (a + b) = (vl a + vl b) % q.n := by
  unfold vl; rw [Fin.val_add]; norm_cast
theorem vl_mul {q : Pm} (a b : Fq q) : vl (a * b) = (vl a * vl b) % q.n := by
  unfold vl; rw [Fin.val_mul]; norm_cast
/-- the element of a whole number -/
def el (q : Pm) (i : Int) : Fq q := Fin.ofNat q.n (i % q.n).toNat
theorem vl_el (q : Pm) (i : Int) : vl (el q i) = i % q.n := by
  have h := q.pos
  unfold vl el
  have h0 : 0 ≤ i % (q.n : Int) := Int.emod_nonneg _ (by omega)
  have h1 : i % (q.n : Int) < q.n := Int.emod_lt_of_pos _ (by omega)
  rw [Fin.val_ofNat, Nat.mod_eq_of_lt (by omega)]
  omega
theorem el_vl {q : Pm} (a : Fq q) : el q (vl a) = a := vl_inj (by
  rw [vl_el, Int.emod_eq_of_lt (vl_lo a) (vl_hi a)])
theorem vl_neg {q : Pm} (a : Fq q) : vl (-a) = (- vl a) % q.n := by
  revert a; cases q <;> decide
theorem vl_sub {q : Pm} (a b : Fq q) : vl (a - b) = (vl a - vl b) % q.n := by
  rw [show a - b = a + -b by grind, vl_add, vl_neg]
  generalize vl a = x
  generalize vl b = y
  cases q <;> simp only [Pm.n] <;> omega
end Still

set_option linter.all false
set_option maxHeartbeats 1000000
namespace Still
open Lean.Grind (CommRing)
/-! rows as functions, spans, low lists -/
section
variable {F : Type} [CommRing F] [DecidableEq F]
abbrev Vc (F : Type) := Nat → F
def vc (r : List F) : Vc F := fun i => r.getD i 0
def leadM (r : List F) : Option Nat := r.findIdx? fun x => decide (x ≠ 0)
def ld (r : List F) : Nat := (leadM r).getD 0
def tkM (x : List F) (c : F) (y : List F) : List F := List.zipWith (fun a b => a - c * b) x y
def scM (c : F) (x : List F) : List F := x.map fun a => c * a
def leftM (form : List (List F)) (x : List F) : List F := form.foldl (fun x o => tkM x (vc x (ld o)) o) x
def hasM (form : List (List F)) (x : List F) : Bool := decide (leadM (leftM form x) = none)
theorem vc_ge {r : List F} {i : Nat} (h : r.length ≤ i) : vc r i = 0 := by
  unfold vc; simp [List.getD, List.getElem?_eq_none h]
theorem vc_lt {r : List F} {i : Nat} {a : F} (h : r[i]? = some a) : vc r i = a := by
  unfold vc; simp [List.getD, h]
theorem vc_get {r : List F} {i : Nat} (h : i < r.length) : r[i]? = some (vc r i) := by
  unfold vc; simp [List.getD, List.getElem?_eq_getElem h]
theorem vc_ext {r s : List F} (h : r.length = s.length) (e : ∀ i, vc r i = vc s i) : r = s := by
  apply List.ext_getElem h
  intro i h1 h2
  have := e i
  rw [vc_lt (List.getElem?_eq_getElem h1), vc_lt (List.getElem?_eq_getElem h2)] at this
  exact this
theorem lead_some {r : List F} {k : Nat} : leadM r = some k ↔ vc r k ≠ 0 ∧ ∀ m, m < k → vc r m = 0 := by
  unfold leadM
  rw [List.findIdx?_eq_some_iff_getElem]
  constructor
  · rintro ⟨h, h1, h2⟩
    refine ⟨?_, fun m hm => ?_⟩
    · rw [vc_lt (List.getElem?_eq_getElem h)]; simpa using h1
    · have := h2 m hm
      rw [vc_lt (List.getElem?_eq_getElem (Nat.lt_trans hm h))]
      simpa using this
  · rintro ⟨h1, h2⟩
    have h : k < r.length := by
      apply Nat.lt_of_not_le; intro h; exact h1 (vc_ge h)
    refine ⟨h, ?_, fun j hj => ?_⟩
    · rw [vc_lt (List.getElem?_eq_getElem h)] at h1; simpa using h1
    · have := h2 j hj
      rw [vc_lt (List.getElem?_eq_getElem (Nat.lt_trans hj h))] at this
      simpa using this
theorem lead_none {r : List F} : leadM r = none ↔ ∀ m, vc r m = 0 := by
  unfold leadM
  rw [List.findIdx?_eq_none_iff]
  constructor
  · intro h m
    by_cases hm : m < r.length
    · have := h r[m] (List.getElem_mem hm)
      rw [vc_lt (List.getElem?_eq_getElem hm)]
      simpa using this
    · exact vc_ge (by omega)
  · intro h x hx
    obtain ⟨i, hi, rfl⟩ := List.getElem_of_mem hx
    have := h i
    rw [vc_lt (List.getElem?_eq_getElem hi)] at this
    simpa using this
theorem tk_len {x y : List F} {c : F} (h : x.length = y.length) : (tkM x c y).length = x.length := by
  unfold tkM; rw [List.length_zipWith]; omega
theorem vc_tk {x y : List F} {c : F} (h : x.length = y.length) (i : Nat) : vc (tkM x c y) i = vc x i - c * vc y i := by
  by_cases hi : i < x.length
  · have h2 : i < y.length := by omega
    apply vc_lt
    unfold tkM
    rw [List.getElem?_zipWith]
    rw [vc_get hi, vc_get h2]
  · rw [vc_ge (by rw [tk_len h]; omega), vc_ge (by omega), vc_ge (by omega)]; grind
theorem vc_sc {x : List F} {c : F} (i : Nat) : vc (scM c x) i = c * vc x i := by
  by_cases hi : i < x.length
  · apply vc_lt
    unfold scM
    rw [List.getElem?_map, vc_get hi]; rfl
  · rw [vc_ge (by unfold scM; rw [List.length_map]; omega), vc_ge (by omega)]; grind
/-! spans -/
structure Sub (P : Vc F → Prop) : Prop where
  zero : P fun _ => 0
  tk : ∀ x y c, P x → P y → P fun i => x i - c * y i
theorem Sub.smul {P : Vc F → Prop} (h : Sub P) {x : Vc F} (c : F) (hx : P x) : P fun i => c * x i := by
  have := h.tk _ x (-c) h.zero hx
  rw [show (fun i => c * x i) = fun i => 0 - -c * x i by funext i; grind]
  exact this
theorem Sub.add {P : Vc F → Prop} (h : Sub P) {x y : Vc F} (hx : P x) (hy : P y) : P fun i => x i + y i := by
  have := h.tk x y (-1) hx hy
  rw [show (fun i => x i + y i) = fun i => x i - -1 * y i by funext i; grind]
  exact this
theorem Sub.sub {P : Vc F → Prop} (h : Sub P) {x y : Vc F} (hx : P x) (hy : P y) : P fun i => x i - y i := by
  have := h.tk x y 1 hx hy
  rw [show (fun i => x i - y i) = fun i => x i - 1 * y i by funext i; grind]
  exact this
def Spn (rows : List (List F)) : Vc F → Prop := fun x => ∀ P : Vc F → Prop, Sub P → (∀ r, r ∈ rows → P (vc r)) → P x
theorem Spn.sub (rows : List (List F)) : Sub (Spn rows) := ⟨fun P h _ => h.zero, fun x y c hx hy P h g => h.tk x y c (hx P h g) (hy P h g)⟩
theorem Spn.mem {rows : List (List F)} {r : List F} (h : r ∈ rows) : Spn rows (vc r) := fun P _ g => g r h
theorem Spn.le {rows : List (List F)} {P : Vc F → Prop} (h : Sub P) (g : ∀ r, r ∈ rows → P (vc r)) {x : Vc F} (hx : Spn rows x) : P x := hx P h g
theorem Spn.mono {a b : List (List F)} (h : ∀ r, r ∈ a → Spn b (vc r)) {x : Vc F} (hx : Spn a x) : Spn b x := hx.le (Spn.sub b) h
theorem Spn.perm {a b : List (List F)} (h : a.Perm b) {x : Vc F} : Spn a x ↔ Spn b x := ⟨Spn.mono fun r hr => Spn.mem (h.mem_iff.mp hr), Spn.mono fun r hr => Spn.mem (h.mem_iff.mpr hr)⟩
theorem Spn.nil {x : Vc F} (h : Spn ([] : List (List F)) x) : ∀ i, x i = 0 := h (fun x => ∀ i, x i = 0) ⟨fun _ => rfl, fun x y c hx hy i => by show x i - c * y i = 0; rw [hx, hy]; grind⟩ fun r hr => nomatch hr
/-- all rows of a length -/
def Fu (n : Nat) : Vc F → Prop := fun x => ∀ i, n ≤ i → x i = 0
theorem Fu.sub (n : Nat) : Sub (Fu (F := F) n) := ⟨fun _ _ => rfl, fun x y c hx hy i hi => by show x i - c * y i = 0; rw [hx i hi, hy i hi]; grind⟩
theorem Fu.of {n : Nat} {r : List F} (h : r.length = n) : Fu n (vc r) := fun i hi => vc_ge (by omega)
theorem Spn.fu {n : Nat} {rows : List (List F)} (h : ∀ r, r ∈ rows → r.length = n) {x : Vc F} (hx : Spn rows x) : Fu n x := hx.le (Fu.sub n) fun r hr => Fu.of (h r hr)
def lst (n : Nat) (x : Vc F) : List F := (List.range n).map x
theorem lst_len (n : Nat) (x : Vc F) : (lst n x).length = n := by unfold lst; simp
theorem vc_lst {n : Nat} {x : Vc F} (h : Fu n x) (i : Nat) : vc (lst n x) i = x i := by
  by_cases hi : i < n
  · apply vc_lt; unfold lst; simp [hi]
  · rw [vc_ge (by rw [lst_len]; omega), h i (by omega)]
theorem vc_lst' {n : Nat} {x : Vc F} (h : Fu n x) : vc (lst n x) = x := funext (vc_lst h)
theorem lst_vc {n : Nat} {r : List F} (h : r.length = n) : lst n (vc r) = r := vc_ext (by rw [lst_len, h]) (vc_lst (Fu.of h))
/-- the sum of a form's rows, each so often as c tells -/
def cmb (form : List (List F)) (c : List F → F) (m : Nat) : F := form.foldr (fun r a => c r * vc r m + a) 0
theorem cmb_sp (form : List (List F)) (c : List F → F) : Spn form (cmb form c) := by
  intro P h g
  induction form with
  | nil => exact h.zero
  | cons r t ih => exact h.add (h.smul (c r) (g r List.mem_cons_self)) (ih fun s hs => g s (List.mem_cons_of_mem _ hs))
theorem cmb_congr {form : List (List F)} {c d : List F → F} (h : ∀ r, r ∈ form → c r = d r) : cmb form c = cmb form d := by
  funext m
  induction form with
  | nil => rfl
  | cons r t ih =>
    show c r * vc r m + cmb t c m = d r * vc r m + cmb t d m
    rw [h r List.mem_cons_self, ih fun s hs => h s (List.mem_cons_of_mem _ hs)]
theorem cmb_zero {form : List (List F)} {c : List F → F} {m : Nat} (h : ∀ r, r ∈ form → c r * vc r m = 0) : cmb form c m = 0 := by
  induction form with
  | nil => rfl
  | cons r t ih =>
    show c r * vc r m + cmb t c m = 0
    rw [h r List.mem_cons_self, ih fun s hs => h s (List.mem_cons_of_mem _ hs)]; grind
theorem cmb_tk (form : List (List F)) (c d : List F → F) (e : F) (m : Nat) : cmb form (fun r => c r - e * d r) m = cmb form c m - e * cmb form d m := by
  induction form with
  | nil => show (0 : F) = 0 - e * 0; grind
  | cons r t ih =>
    show (c r - e * d r) * vc r m + cmb t _ m = (c r * vc r m + cmb t c m) - e * (d r * vc r m + cmb t d m)
    rw [ih]; grind
/-- rows with leads of their own, each with a single 1 there; in any order -/
structure Pre (n : Nat) (form : List (List F)) : Prop where
  row : ∀ r, r ∈ form → r.length = n
  hd : ∀ r, r ∈ form → leadM r = some (ld r)
  one : ∀ r, r ∈ form → vc r (ld r) = 1
  zer : ∀ r, r ∈ form → ∀ s, s ∈ form → ld r ≠ ld s → vc r (ld s) = 0
  nd : (form.map ld).Nodup
structure Lo (n : Nat) (form : List (List F)) : Prop extends Pre n form where
  up : (form.map ld).Pairwise (· < ·)
theorem Pre.perm {n : Nat} {a b : List (List F)} (h : Pre n a) (p : a.Perm b) : Pre n b :=
  ⟨fun r hr => h.row r (p.mem_iff.mpr hr), fun r hr => h.hd r (p.mem_iff.mpr hr), fun r hr => h.one r (p.mem_iff.mpr hr), fun r hr s hs => h.zer r (p.mem_iff.mpr hr) s (p.mem_iff.mpr hs), (p.map ld).nodup_iff.mp h.nd⟩
theorem Pre.tail {n : Nat} {r : List F} {t : List (List F)} (h : Pre n (r :: t)) : Pre n t :=
  ⟨fun s hs => h.row s (List.mem_cons_of_mem _ hs), fun s hs => h.hd s (List.mem_cons_of_mem _ hs), fun s hs => h.one s (List.mem_cons_of_mem _ hs), fun s hs u hu => h.zer s (List.mem_cons_of_mem _ hs) u (List.mem_cons_of_mem _ hu), (List.nodup_cons.mp (by simpa using h.nd)).2⟩
theorem Pre.ne {n : Nat} {r : List F} {t : List (List F)} (h : Pre n (r :: t)) {s : List F} (hs : s ∈ t) : ld r ≠ ld s := by
  have := (List.nodup_cons.mp (show (ld r :: t.map ld).Nodup from h.nd)).1
  intro e; exact this (e ▸ List.mem_map_of_mem hs)
theorem Pre.lt {n : Nat} {form : List (List F)} (h : Pre n form) (ne : (1 : F) ≠ 0) {r : List F} (hr : r ∈ form) : ld r < n := by
  have h1 := h.one r hr
  have h2 := h.row r hr
  apply Nat.lt_of_not_le; intro h3
  rw [vc_ge (by omega)] at h1; exact ne h1.symm
theorem Pre.bef {n : Nat} {form : List (List F)} (h : Pre n form) {r : List F} (hr : r ∈ form) {m : Nat} (hm : m < ld r) : vc r m = 0 := (lead_some.mp (h.hd r hr)).2 m hm
theorem left_len {n : Nat} : ∀ {form : List (List F)} {x : List F}, (∀ r, r ∈ form → r.length = n) → x.length = n → (leftM form x).length = n
  | [], x, _, h => h
  | r :: t, x, g, h => by
    have h1 := g r List.mem_cons_self
    exact left_len (form := t) (fun s hs => g s (List.mem_cons_of_mem _ hs)) (by rw [tk_len (by omega)]; exact h)
theorem vc_left {n : Nat} : ∀ {form : List (List F)} {x : List F}, Pre n form → x.length = n → ∀ m, vc (leftM form x) m = vc x m - cmb form (fun r => vc x (ld r)) m
  | [], x, _, _, m => by show vc x m = vc x m - 0; grind
  | r :: t, x, g, h, m => by
    have h1 := g.row r List.mem_cons_self
    have hl : (tkM x (vc x (ld r)) r).length = n := by rw [tk_len (by omega)]; exact h
    show vc (leftM t (tkM x (vc x (ld r)) r)) m = _
    rw [vc_left g.tail hl m]
    have e : cmb t (fun s => vc (tkM x (vc x (ld r)) r) (ld s)) = cmb t fun s => vc x (ld s) := cmb_congr fun s hs => by
      rw [vc_tk (by omega), g.zer r List.mem_cons_self s (List.mem_cons_of_mem _ hs) (g.ne hs)]; grind
    rw [e, vc_tk (by omega)]
    show _ = vc x m - (vc x (ld r) * vc r m + cmb t (fun s => vc x (ld s)) m)
    grind
/-- a row of a form's span, by its numbers at the leads -/
theorem cmb_self {n : Nat} : ∀ {form : List (List F)} {s : List F}, Pre n form → s ∈ form → ∀ m, cmb form (fun r => vc s (ld r)) m = vc s m
  | r :: t, s, g, h, m => by
    show vc s (ld r) * vc r m + cmb t (fun r => vc s (ld r)) m = vc s m
    rcases List.mem_cons.mp h with rfl | h
    · rw [g.one s List.mem_cons_self, cmb_zero fun u hu => ?_]
      · grind
      · rw [g.zer s List.mem_cons_self u (List.mem_cons_of_mem _ hu) (g.ne hu)]; grind
    · rw [g.zer s (List.mem_cons_of_mem _ h) r List.mem_cons_self (fun e => g.ne h e.symm), cmb_self g.tail h m]; grind
theorem sp_cmb {n : Nat} {form : List (List F)} (g : Pre n form) {x : Vc F} (h : Spn form x) : ∀ m, x m = cmb form (fun r => x (ld r)) m :=
  h.le (P := fun x => ∀ m, x m = cmb form (fun r => x (ld r)) m) ⟨fun m => (cmb_zero fun r hr => by grind).symm, fun x y c hx hy m => by
    rw [cmb_tk form (fun r => x (ld r)) (fun r => y (ld r)) c m, ← hx m, ← hy m]⟩ fun r hr m => (cmb_self g hr m).symm
theorem sp_zero {n : Nat} {form : List (List F)} (g : Pre n form) {x : Vc F} (h : Spn form x) (z : ∀ r, r ∈ form → x (ld r) = 0) : ∀ m, x m = 0 := fun m => by
  rw [sp_cmb g h m]
  exact cmb_zero fun r hr => by rw [z r hr]; grind
theorem left_sp {n : Nat} {form : List (List F)} (g : Pre n form) {x : List F} (hx : x.length = n) : Spn form (fun m => vc x m - vc (leftM form x) m) := by
  rw [show (fun m => vc x m - vc (leftM form x) m) = cmb form fun r => vc x (ld r) by funext m; rw [vc_left g hx]; grind]
  exact cmb_sp _ _
theorem left_at {n : Nat} {form : List (List F)} (g : Pre n form) {x : List F} (hx : x.length = n) {s : List F} (hs : s ∈ form) : vc (leftM form x) (ld s) = 0 := by
  rw [vc_left g hx]
  have h : ∀ {t : List (List F)}, Pre n t → s ∈ t → cmb t (fun r => vc x (ld r)) (ld s) = vc x (ld s) := by
    intro t
    induction t with
    | nil => intro _ h; nomatch h
    | cons r t ih =>
      intro g h
      show vc x (ld r) * vc r (ld s) + cmb t (fun r => vc x (ld r)) (ld s) = _
      rcases List.mem_cons.mp h with rfl | h
      · rw [g.one s List.mem_cons_self, cmb_zero fun u hu => ?_]
        · grind
        · rw [g.zer u (List.mem_cons_of_mem _ hu) s List.mem_cons_self (fun e => g.ne hu e.symm)]; grind
      · rw [g.zer r List.mem_cons_self s (List.mem_cons_of_mem _ h) (g.ne h), ih g.tail h]; grind
  rw [h g hs]; grind
theorem has_iff {n : Nat} {form : List (List F)} (g : Pre n form) {x : List F} (hx : x.length = n) : hasM form x = true ↔ Spn form (vc x) := by
  unfold hasM
  rw [decide_eq_true_iff, lead_none]
  constructor
  · intro h
    have := left_sp g hx
    rw [show (fun m => vc x m - vc (leftM form x) m) = vc x by funext m; rw [h]; grind] at this
    exact this
  · intro h
    have h2 : Spn form (vc (leftM form x)) := by
      have := (Spn.sub form).sub h (left_sp g hx)
      rw [show (fun i => vc x i - (vc x i - vc (leftM form x) i)) = vc (leftM form x) by funext i; grind] at this
      exact this
    exact sp_zero g h2 fun r hr => left_at g hx hr
/-- the lead of a row of the span is the lead of a row of the form -/
theorem lead_sp {n : Nat} {form : List (List F)} (g : Pre n form) {x : Vc F} (h : Spn form x) {k : Nat} (hk : x k ≠ 0) (hb : ∀ m, m < k → x m = 0) : ∃ r, r ∈ form ∧ ld r = k := by
  have e := sp_cmb g h k
  have : ∃ r, r ∈ form ∧ x (ld r) * vc r k ≠ 0 := by
    apply Classical.byContradiction
    intro hn
    apply hk
    rw [e]
    exact cmb_zero fun r hr => Classical.byContradiction fun q => hn ⟨r, hr, q⟩
  obtain ⟨r, hr, hq⟩ := this
  refine ⟨r, hr, ?_⟩
  have h1 : x (ld r) ≠ 0 := by intro z; apply hq; rw [z]; grind
  have h2 : vc r k ≠ 0 := by intro z; apply hq; rw [z]; grind
  have h3 : ¬ ld r < k := fun z => h1 (hb _ z)
  have h4 : ¬ k < ld r := fun z => h2 (g.bef hr z)
  omega
theorem sorted_ext : ∀ {a b : List Nat}, a.Pairwise (· < ·) → b.Pairwise (· < ·) → (∀ x, x ∈ a ↔ x ∈ b) → a = b
  | [], [], _, _, _ => rfl
  | [], y :: b, _, _, h => by have := (h y).mpr List.mem_cons_self; simp at this
  | x :: a, [], _, _, h => by have := (h x).mp List.mem_cons_self; simp at this
  | x :: a, y :: b, ha, hb, h => by
    obtain ⟨h1, h2⟩ := List.pairwise_cons.mp ha
    obtain ⟨h3, h4⟩ := List.pairwise_cons.mp hb
    have e : x = y := by
      rcases List.mem_cons.mp ((h x).mp List.mem_cons_self) with e | e
      · exact e
      · rcases List.mem_cons.mp ((h y).mpr List.mem_cons_self) with e2 | e2
        · exact e2.symm
        · have := h3 x e; have := h1 y e2; omega
    subst e
    rw [sorted_ext h2 h4 fun z => ?_]
    have hz := h z
    simp only [List.mem_cons] at hz
    constructor
    · intro q
      rcases hz.mp (.inr q) with e | e
      · have := h1 z q; omega
      · exact e
    · intro q
      rcases hz.mpr (.inr q) with e | e
      · have := h3 z q; omega
      · exact e
theorem map_inj {α β : Type} {f : α → β} : ∀ {a b : List α}, a.map f = b.map f → (∀ x, x ∈ a → ∀ y, y ∈ b → f x = f y → x = y) → a = b
  | [], [], _, _ => rfl
  | [], _ :: _, h, _ => by simp at h
  | _ :: _, [], h, _ => by simp at h
  | x :: a, y :: b, h, g => by
    simp only [List.map_cons, List.cons.injEq] at h
    rw [g x List.mem_cons_self y List.mem_cons_self h.1, map_inj h.2 fun x hx y hy => g x (List.mem_cons_of_mem _ hx) y (List.mem_cons_of_mem _ hy)]
theorem lo_lead {n : Nat} {a b : List (List F)} (ha : Pre n a) (hb : Pre n b) (h : ∀ x, Spn a x → Spn b x) {k : Nat} (hk : k ∈ a.map ld) : k ∈ b.map ld := by
  obtain ⟨r, hr, rfl⟩ := List.mem_map.mp hk
  obtain ⟨h1, h2⟩ := lead_some.mp (ha.hd r hr)
  obtain ⟨s, hs, e⟩ := lead_sp hb (h _ (Spn.mem hr)) h1 h2
  exact List.mem_map.mpr ⟨s, hs, e⟩
/-- a span has one form -/
theorem lo_unique {n : Nat} {a b : List (List F)} (ha : Lo n a) (hb : Lo n b) (h : ∀ x, Spn a x ↔ Spn b x) : a = b := by
  have e : a.map ld = b.map ld := sorted_ext ha.up hb.up fun k => ⟨lo_lead ha.toPre hb.toPre fun x => (h x).mp, lo_lead hb.toPre ha.toPre fun x => (h x).mpr⟩
  refine map_inj e fun r hr s hs hl => vc_ext (by rw [ha.row r hr, hb.row s hs]) fun m => ?_
  have z := sp_zero ha.toPre ((Spn.sub a).sub (Spn.mem hr) ((h _).mpr (Spn.mem hs))) (fun t ht => ?_) m
  · grind
  · obtain ⟨t', ht', et⟩ := List.mem_map.mp (e ▸ List.mem_map_of_mem ht : ld t ∈ b.map ld)
    by_cases q : ld r = ld t
    · rw [← q, ha.one r hr, hl, hb.one s hs]; grind
    · rw [ha.zer r hr t ht q, ← et, hb.zer s hs t' ht' (by rw [et, ← hl]; exact q)]; grind
theorem nodup_le : ∀ {a b : List Nat}, a.Nodup → (∀ x, x ∈ a → x ∈ b) → a.length ≤ b.length
  | [], b, _, _ => Nat.zero_le _
  | x :: a, b, h, g => by
    obtain ⟨h1, h2⟩ := List.nodup_cons.mp h
    have hx := g x List.mem_cons_self
    have := nodup_le (a := a) (b := b.erase x) h2 fun y hy => (List.mem_erase_of_ne (fun (e : y = x) => h1 (e ▸ hy))).mpr (g y (List.mem_cons_of_mem _ hy))
    rw [List.length_erase_of_mem hx] at this
    have hp := List.length_pos_of_mem hx
    show a.length + 1 ≤ b.length
    omega
theorem lo_le {n : Nat} {a b : List (List F)} (ha : Pre n a) (hb : Pre n b) (h : ∀ x, Spn a x → Spn b x) : a.length ≤ b.length := by
  have := nodup_le ha.nd fun k hk => lo_lead ha hb h hk
  simpa using this
theorem lo_eq_len {n : Nat} {a b : List (List F)} (ha : Lo n a) (hb : Lo n b) (h : ∀ x, Spn a x → Spn b x) (hl : b.length ≤ a.length) : a = b := by
  refine lo_unique ha hb fun x => ⟨h x, fun hx => ?_⟩
  -- every lead of b is one of a
  have hk : ∀ k, k ∈ b.map ld → k ∈ a.map ld := by
    intro k hk
    apply Classical.byContradiction
    intro hn
    have h1 : ((a.map ld)).length ≤ ((b.map ld).erase k).length := nodup_le ha.nd fun y hy => (List.mem_erase_of_ne (fun (e : y = k) => hn (e ▸ hy))).mpr (lo_lead ha.toPre hb.toPre h hy)
    rw [List.length_erase_of_mem hk] at h1
    have hp := List.length_pos_of_mem hk
    simp only [List.length_map] at h1 hp
    omega
  have hfu : Fu n x := hx.fu hb.row
  have h2 := left_sp ha.toPre (lst_len n x)
  have h3 : ∀ m, vc (leftM a (lst n x)) m = 0 := by
    refine sp_zero hb.toPre ?_ fun s hs => ?_
    · have := (Spn.sub b).sub hx (h _ h2)
      rw [show (fun i => x i - (vc (lst n x) i - vc (leftM a (lst n x)) i)) = vc (leftM a (lst n x)) by funext i; rw [vc_lst hfu]; grind] at this
      exact this
    · obtain ⟨t, ht, e⟩ := List.mem_map.mp (hk _ (List.mem_map_of_mem hs))
      rw [← e]
      exact left_at ha.toPre (lst_len n x) ht
  rw [show (fun m => vc (lst n x) m - vc (leftM a (lst n x)) m) = x by funext m; rw [h3, vc_lst hfu]; grind] at h2
  exact h2
end
end Still

set_option linter.all false
set_option maxHeartbeats 1000000
namespace Still
open Lean.Grind (CommRing)
/-! the form of a span -/
section
variable {F : Type} [CommRing F] [DecidableEq F] [Fd F]
def norM (rest : List F) (a : Nat) : List F := scM (Fd.inv (vc rest a)) rest
def fndM (form : List (List F)) (y : List F) (a : Nat) : List (List F) := (form.map fun o => tkM o (vc o a) y) ++ [y]
def wrM (form : List (List F)) (row : List F) : List (List F) :=
  match leadM (leftM form row) with
  | none => form
  | some a => (fndM form (norM (leftM form row) a) a).mergeSort fun r s => decide (ld r ≤ ld s)
def lowM (rows : List (List F)) : List (List F) := rows.foldl wrM []
theorem ld_of {r : List F} {k : Nat} (h : leadM r = some k) : ld r = k := by unfold ld; rw [h]; rfl
theorem Lo.nil {n : Nat} : Lo n ([] : List (List F)) := { row := fun r h => by simp at h, hd := fun r h => by simp at h, one := fun r h => by simp at h, zer := fun r h => by simp at h, nd := List.nodup_nil, up := List.Pairwise.nil }
theorem Lo.of_sorted {n : Nat} {a p : List (List F)} (h : Pre n a) (hp : p.Perm a) (hs : p.Pairwise fun r s => ld r ≤ ld s) : Lo n p := by
  have hq := h.perm hp.symm
  refine ⟨hq, ?_⟩
  have h1 : (p.map ld).Pairwise (· ≤ ·) := List.pairwise_map.mpr hs
  have h2 := hq.nd
  rw [List.nodup_iff_pairwise_ne] at h2
  exact (h1.and h2).imp fun h => Nat.lt_of_le_of_ne h.1 h.2
structure WrSt (n : Nat) (form : List (List F)) (y : List F) (a : Nat) : Prop where
  len : y.length = n
  lead : leadM y = some a
  one : vc y a = 1
  zer : ∀ s, s ∈ form → vc y (ld s) = 0
theorem fnd_ld {n : Nat} {form : List (List F)} {y : List F} {a : Nat} (g : Pre n form) (w : WrSt n form y a) {o : List F} (ho : o ∈ form) : leadM (tkM o (vc o a) y) = some (ld o) := by
  rw [lead_some]
  have hl : o.length = y.length := by rw [g.row o ho, w.len]
  refine ⟨?_, fun m hm => ?_⟩
  · rw [vc_tk hl, w.zer o ho, g.one o ho, show (1 : F) - vc o a * 0 = 1 by grind]
    exact Fd.ne
  · rw [vc_tk hl, g.bef ho hm]
    by_cases hma : m < a
    · rw [(lead_some.mp w.lead).2 m hma]; grind
    · rw [g.bef ho (show a < ld o by omega)]; grind
theorem fnd_pre {n : Nat} {form : List (List F)} {y : List F} {a : Nat} (g : Pre n form) (w : WrSt n form y a) : Pre n (fndM form y a) := by
  have hy : ld y = a := ld_of w.lead
  have ha : ∀ o, o ∈ form → ld o ≠ a := fun o ho e => by
    have := w.zer o ho
    rw [e, w.one] at this
    exact Fd.ne this
  have hmem : ∀ r, r ∈ fndM form y a → (∃ o, o ∈ form ∧ r = tkM o (vc o a) y ∧ ld r = ld o) ∨ r = y := by
    intro r hr
    unfold fndM at hr
    rcases List.mem_append.mp hr with hr | hr
    · obtain ⟨o, ho, rfl⟩ := List.mem_map.mp hr
      exact .inl ⟨o, ho, rfl, ld_of (fnd_ld g w ho)⟩
    · exact .inr (List.mem_singleton.mp hr)
  have hl : ∀ o, o ∈ form → o.length = y.length := fun o ho => by rw [g.row o ho, w.len]
  refine ⟨fun r hr => ?_, fun r hr => ?_, fun r hr => ?_, fun r hr s hs hne => ?_, ?_⟩
  · rcases hmem r hr with ⟨o, ho, rfl, _⟩ | rfl
    · rw [tk_len (hl o ho), g.row o ho]
    · exact w.len
  · rcases hmem r hr with ⟨o, ho, rfl, e⟩ | rfl
    · rw [e]; exact fnd_ld g w ho
    · rw [hy]; exact w.lead
  · rcases hmem r hr with ⟨o, ho, rfl, e⟩ | rfl
    · rw [e, vc_tk (hl o ho), w.zer o ho, g.one o ho]; grind
    · rw [hy]; exact w.one
  · rcases hmem r hr with ⟨o, ho, rfl, e⟩ | rfl
    · rw [vc_tk (hl o ho)]
      rcases hmem s hs with ⟨o2, ho2, rfl, e2⟩ | rfl
      · rw [e2, w.zer o2 ho2, g.zer o ho o2 ho2 (by rw [← e, ← e2]; exact hne)]; grind
      · rw [hy, w.one]; grind
    · rcases hmem s hs with ⟨o2, ho2, rfl, e2⟩ | rfl
      · rw [e2]; exact w.zer o2 ho2
      · exact absurd rfl hne
  · have e : (fndM form y a).map ld = form.map ld ++ [a] := by
      unfold fndM
      rw [List.map_append, List.map_map]
      congr 1
      · exact List.map_congr_left fun o ho => ld_of (fnd_ld g w ho)
      · show [ld y] = [a]; rw [hy]
    rw [e, List.nodup_append]
    refine ⟨g.nd, by simp, fun k hk j hj => ?_⟩
    rw [List.mem_singleton] at hj
    obtain ⟨o, ho, rfl⟩ := List.mem_map.mp hk
    rw [hj]; exact ha o ho
theorem wr_st {n : Nat} {form : List (List F)} {row : List F} {a : Nat} (g : Pre n form) (hr : row.length = n) (h : leadM (leftM form row) = some a) : WrSt n form (norM (leftM form row) a) a := by
  obtain ⟨h1, h2⟩ := lead_some.mp h
  have h3 := Fd.mul_inv _ h1
  have h4 : vc (norM (leftM form row) a) a = 1 := by unfold norM; rw [vc_sc]; grind
  refine ⟨?_, ?_, h4, fun s hs => ?_⟩
  · unfold norM scM; rw [List.length_map]; exact left_len g.row hr
  · rw [lead_some]
    refine ⟨by rw [h4]; exact Fd.ne, fun m hm => ?_⟩
    unfold norM; rw [vc_sc, h2 m hm]; grind
  · unfold norM; rw [vc_sc, left_at g hr hs]; grind
theorem fnd_sp {n : Nat} {form : List (List F)} {row : List F} {a : Nat} (g : Pre n form) (hr : row.length = n) (h : leadM (leftM form row) = some a) (x : Vc F) :
    Spn (fndM form (norM (leftM form row) a) a) x ↔ Spn (form ++ [row]) x := by
  have w := wr_st g hr h
  obtain ⟨h1, _⟩ := lead_some.mp h
  have h3 := Fd.mul_inv _ h1
  have hl : ∀ o, o ∈ form → o.length = (norM (leftM form row) a).length := fun o ho => by rw [g.row o ho, w.len]
  have ls := left_sp g hr
  constructor
  · refine Spn.mono fun r hr' => ?_
    have hf : ∀ z, Spn form z → Spn (form ++ [row]) z := fun z => Spn.mono fun s hs => Spn.mem (List.mem_append_left _ hs)
    have hy : Spn (form ++ [row]) (vc (norM (leftM form row) a)) := by
      have h5 := (Spn.sub (form ++ [row])).sub (Spn.mem (List.mem_append_right _ (List.mem_singleton.mpr rfl))) (hf _ ls)
      have h6 := (Spn.sub (form ++ [row])).smul (Fd.inv (vc (leftM form row) a)) h5
      rw [show vc (norM (leftM form row) a) = fun i => Fd.inv (vc (leftM form row) a) * (vc row i - (vc row i - vc (leftM form row) i)) by
        funext i; unfold norM; rw [vc_sc]; grind]
      exact h6
    unfold fndM at hr'
    rcases List.mem_append.mp hr' with hr' | hr'
    · obtain ⟨o, ho, rfl⟩ := List.mem_map.mp hr'
      have := (Spn.sub (form ++ [row])).tk _ _ (vc o a) (Spn.mem (List.mem_append_left _ ho)) hy
      rw [show vc (tkM o (vc o a) (norM (leftM form row) a)) = fun i => vc o i - vc o a * vc (norM (leftM form row) a) i by funext i; rw [vc_tk (hl o ho)]]
      exact this
    · rw [List.mem_singleton.mp hr']; exact hy
  · have hy : Spn (fndM form (norM (leftM form row) a) a) (vc (norM (leftM form row) a)) := Spn.mem (List.mem_append_right _ (List.mem_singleton.mpr rfl))
    have ho' : ∀ o, o ∈ form → Spn (fndM form (norM (leftM form row) a) a) (vc o) := fun o ho => by
      have h5 : Spn (fndM form (norM (leftM form row) a) a) (vc (tkM o (vc o a) (norM (leftM form row) a))) := Spn.mem (List.mem_append_left _ (List.mem_map.mpr ⟨o, ho, rfl⟩))
      have := (Spn.sub (fndM form (norM (leftM form row) a) a)).tk _ _ (-(vc o a)) h5 hy
      rw [show (fun i => vc (tkM o (vc o a) (norM (leftM form row) a)) i - -(vc o a) * vc (norM (leftM form row) a) i) = vc o by funext i; rw [vc_tk (hl o ho)]; grind] at this
      exact this
    refine Spn.mono fun r hr' => ?_
    rcases List.mem_append.mp hr' with hr' | hr'
    · exact ho' r hr'
    · rw [List.mem_singleton.mp hr']
      have h5 := (Spn.sub (fndM form (norM (leftM form row) a) a)).add (ls.le (Spn.sub _) ho') ((Spn.sub (fndM form (norM (leftM form row) a) a)).smul (vc (leftM form row) a) hy)
      rw [show (fun i => vc row i - vc (leftM form row) i + vc (leftM form row) a * vc (norM (leftM form row) a) i) = vc row by
        funext i; unfold norM; rw [vc_sc]; grind] at h5
      exact h5
theorem sort_ld (l : List (List F)) : (l.mergeSort fun r s => decide (ld r ≤ ld s)).Pairwise fun r s => ld r ≤ ld s := by
  have := List.pairwise_mergeSort (le := fun r s : List F => decide (ld r ≤ ld s)) (fun a b c h1 h2 => by simp only [decide_eq_true_eq] at *; omega) (fun a b => by simp only [Bool.or_eq_true, decide_eq_true_eq]; omega) l
  exact this.imp fun h => by simpa using h
theorem wr_lo {n : Nat} {form : List (List F)} {row : List F} (g : Lo n form) (hr : row.length = n) : Lo n (wrM form row) := by
  unfold wrM
  split
  · exact g
  · rename_i a h
    exact Lo.of_sorted (fnd_pre g.toPre (wr_st g.toPre hr h)) (List.mergeSort_perm _ _) (sort_ld _)
theorem wr_sp {n : Nat} {form : List (List F)} {row : List F} (g : Lo n form) (hr : row.length = n) (x : Vc F) : Spn (wrM form row) x ↔ Spn (form ++ [row]) x := by
  unfold wrM
  split
  · rename_i h
    have h2 : Spn form (vc row) := (has_iff g.toPre hr).mp (by unfold hasM; rw [h]; rfl)
    refine ⟨Spn.mono fun r h => Spn.mem (List.mem_append_left _ h), Spn.mono fun r h => ?_⟩
    rcases List.mem_append.mp h with h | h
    · exact Spn.mem h
    · rw [List.mem_singleton.mp h]; exact h2
  · rename_i a h
    rw [Spn.perm (List.mergeSort_perm _ _)]
    exact fnd_sp g.toPre hr h x
/-- any order by leads is the one -/
theorem wr_eq {n : Nat} {form p : List (List F)} {row : List F} {a : Nat} (g : Lo n form) (hr : row.length = n) (h : leadM (leftM form row) = some a) (hp : p.Perm (fndM form (norM (leftM form row) a) a)) (hs : p.Pairwise fun r s => ld r ≤ ld s) : p = wrM form row := by
  refine lo_unique (Lo.of_sorted (fnd_pre g.toPre (wr_st g.toPre hr h)) hp hs) (wr_lo g hr) fun x => ?_
  rw [Spn.perm hp, fnd_sp g.toPre hr h, wr_sp g hr]
theorem wr_has {n : Nat} {form : List (List F)} {row : List F} (h : hasM form row = true) : wrM form row = form := by
  unfold hasM at h
  unfold wrM
  rw [of_decide_eq_true h]
theorem wr_len {n : Nat} {form : List (List F)} {row : List F} (h : hasM form row = false) : (wrM form row).length = form.length + 1 := by
  unfold hasM at h
  unfold wrM
  split
  · rename_i q; rw [q] at h; simp at h
  · rw [List.length_mergeSort]; unfold fndM; simp
theorem low_fold {n : Nat} : ∀ {rows form : List (List F)}, Lo n form → (∀ r, r ∈ rows → r.length = n) → Lo n (rows.foldl wrM form) ∧ ∀ x, Spn (rows.foldl wrM form) x ↔ Spn (form ++ rows) x
  | [], form, g, _ => ⟨g, fun x => by rw [List.append_nil]; rfl⟩
  | r :: t, form, g, h => by
    have h1 := h r List.mem_cons_self
    obtain ⟨h2, h3⟩ := low_fold (wr_lo g h1) (rows := t) fun s hs => h s (List.mem_cons_of_mem _ hs)
    refine ⟨h2, fun x => ?_⟩
    show Spn (t.foldl wrM (wrM form r)) x ↔ _
    rw [h3 x]
    have e : form ++ r :: t = (form ++ [r]) ++ t := by simp
    rw [e]
    constructor
    · refine Spn.mono fun s hs => ?_
      rcases List.mem_append.mp hs with hs | hs
      · exact Spn.mono (fun u hu => Spn.mem (List.mem_append_left _ hu)) ((wr_sp g h1 _).mp (Spn.mem hs))
      · exact Spn.mem (List.mem_append_right _ hs)
    · refine Spn.mono fun s hs => ?_
      rcases List.mem_append.mp hs with hs | hs
      · exact Spn.mono (fun u hu => Spn.mem (List.mem_append_left _ hu)) ((wr_sp g h1 _).mpr (Spn.mem hs))
      · exact Spn.mem (List.mem_append_right _ hs)
theorem low_lo {n : Nat} {rows : List (List F)} (h : ∀ r, r ∈ rows → r.length = n) : Lo n (lowM rows) := (low_fold Lo.nil h).1
theorem low_sp {n : Nat} {rows : List (List F)} (h : ∀ r, r ∈ rows → r.length = n) (x : Vc F) : Spn (lowM rows) x ↔ Spn rows x := (low_fold (n := n) Lo.nil h).2 x
theorem low_self {n : Nat} {form : List (List F)} (h : Lo n form) : lowM form = form := lo_unique (low_lo h.row) h fun x => low_sp h.row x
theorem low_eq {n : Nat} {form rows : List (List F)} (h : Lo n form) (hr : ∀ r, r ∈ rows → r.length = n) (e : ∀ x, Spn form x ↔ Spn rows x) : lowM rows = form := lo_unique (low_lo hr) h fun x => (low_sp hr x).trans (e x).symm
/-- a form is no longer than its rows -/
theorem lo_len {n : Nat} {form : List (List F)} (h : Pre n form) : form.length ≤ n := by
  have := nodup_le (b := List.range n) h.nd fun k hk => by
    obtain ⟨r, hr, rfl⟩ := List.mem_map.mp hk
    exact List.mem_range.mpr (h.lt Fd.ne hr)
  simpa using this
/-- a span of rows has a form: any part of all rows -/
theorem form_of {n : Nat} {P : Vc F → Prop} (hP : Sub P) (hf : ∀ x, P x → Fu n x) : ∃ form, Lo n form ∧ ∀ x, Spn form x ↔ P x := by
  have go : ∀ k (form : List (List F)), Lo n form → (∀ x, Spn form x → P x) → n - form.length ≤ k → ∃ form, Lo n form ∧ ∀ x, Spn form x ↔ P x := by
    intro k
    induction k with
    | zero =>
      intro form h1 h2 h3
      have h4 := lo_len h1.toPre
      refine ⟨form, h1, fun x => ⟨h2 x, fun hx => ?_⟩⟩
      apply Classical.byContradiction
      intro hn
      have h5 : hasM form (lst n x) = false := by
        cases q : hasM form (lst n x) with
        | false => rfl
        | true =>
          have := (has_iff h1.toPre (lst_len n x)).mp q
          rw [vc_lst' (hf x hx)] at this
          exact absurd this hn
      have h6 := lo_len (wr_lo h1 (lst_len n x)).toPre
      rw [wr_len (n := n) h5] at h6
      omega
    | succ k ih =>
      intro form h1 h2 h3
      by_cases hc : ∀ x, P x → Spn form x
      · exact ⟨form, h1, fun x => ⟨h2 x, hc x⟩⟩
      · have ⟨x, hx, hn⟩ : ∃ x, P x ∧ ¬ Spn form x := Classical.byContradiction fun q => hc fun x hx => Classical.byContradiction fun r => q ⟨x, hx, r⟩
        have h5 : hasM form (lst n x) = false := by
          cases q : hasM form (lst n x) with
          | false => rfl
          | true =>
            have := (has_iff h1.toPre (lst_len n x)).mp q
            rw [vc_lst' (hf x hx)] at this
            exact absurd this hn
        refine ih (wrM form (lst n x)) (wr_lo h1 (lst_len n x)) (fun z hz => ?_) (by rw [wr_len (n := n) h5]; omega)
        have := (wr_sp h1 (lst_len n x) z).mp hz
        refine this.le hP fun r hr => ?_
        rcases List.mem_append.mp hr with hr | hr
        · exact h2 _ (Spn.mem hr)
        · rw [List.mem_singleton.mp hr, vc_lst' (hf x hx)]; exact hx
  exact go n [] Lo.nil (fun x hx => by
    have := Spn.nil hx
    rw [show x = fun _ => 0 from funext this]
    exact hP.zero) (by simp)
end
end Still

set_option linter.all false
set_option maxHeartbeats 1000000
namespace Still
open Lean.Grind (CommRing)
/-! towers of still spans: any two have alike parts, counted by likeness -/
section
variable {F : Type} [CommRing F] [DecidableEq F]
abbrev Pd (F : Type) := Vc F → Prop
structure Lin (A : Vc F → Vc F) : Prop where
  zero : A (fun _ => 0) = fun _ => 0
  tk : ∀ x y c, A (fun i => x i - c * y i) = fun i => A x i - c * A y i
variable (O : (Vc F → Vc F) → Prop)
/-- a still span -/
structure Md (P : Pd F) : Prop where
  sub : Sub P
  inv : ∀ A, O A → ∀ x, P x → P (A x)
/-- nothing still between -/
structure Simp (L U : Pd F) : Prop where
  lo : Md O L
  hi : Md O U
  le : ∀ x, L x → U x
  ne : ∃ x, U x ∧ ¬ L x
  no : ∀ W, Md O W → (∀ x, L x → W x) → (∀ x, W x → U x) → (∃ x, W x ∧ ¬ L x) → ∀ x, U x → W x
/-- alike parts: by a relation -/
structure Rl (L U L' U' : Pd F) (G : Vc F → Vc F → Prop) : Prop where
  zero : G (fun _ => 0) (fun _ => 0)
  tk : ∀ x x' y y' c, G x x' → G y y' → G (fun i => x i - c * y i) (fun i => x' i - c * y' i)
  inv : ∀ A, O A → ∀ x y, G x y → G (A x) (A y)
  l : ∀ x y, G x y → U x
  r : ∀ x y, G x y → U' y
  tl : ∀ x, U x → ∃ y, G x y
  tr : ∀ y, U' y → ∃ x, G x y
  z : ∀ x y, G x y → (L x ↔ L' y)
def Iso (s t : Pd F × Pd F) : Prop := ∃ G, Rl O s.1 s.2 t.1 t.2 G
variable {O}
theorem Iso.symm {s t : Pd F × Pd F} (h : Iso O s t) : Iso O t s := by
  obtain ⟨G, g⟩ := h
  exact ⟨fun x y => G y x, ⟨g.zero, fun x x' y y' c h1 h2 => g.tk _ _ _ _ c h1 h2, fun A hA x y h => g.inv A hA y x h, fun x y h => g.r y x h, fun x y h => g.l y x h, g.tr, g.tl, fun x y h => (g.z y x h).symm⟩⟩
theorem Iso.trans {s t u : Pd F × Pd F} (h : Iso O s t) (k : Iso O t u) : Iso O s u := by
  obtain ⟨G, g⟩ := h
  obtain ⟨K, m⟩ := k
  refine ⟨fun x z => ∃ y, G x y ∧ K y z, ⟨⟨_, g.zero, m.zero⟩, ?_, ?_, ?_, ?_, ?_, ?_, ?_⟩⟩
  · rintro x x' y y' c ⟨a, h1, h2⟩ ⟨b, h3, h4⟩
    exact ⟨_, g.tk _ _ _ _ c h1 h3, m.tk _ _ _ _ c h2 h4⟩
  · rintro A hA x y ⟨a, h1, h2⟩
    exact ⟨_, g.inv A hA _ _ h1, m.inv A hA _ _ h2⟩
  · rintro x y ⟨a, h1, h2⟩; exact g.l _ _ h1
  · rintro x y ⟨a, h1, h2⟩; exact m.r _ _ h2
  · intro x hx
    obtain ⟨y, hy⟩ := g.tl x hx
    obtain ⟨z, hz⟩ := m.tl y (g.r _ _ hy)
    exact ⟨z, y, hy, hz⟩
  · intro z hz
    obtain ⟨y, hy⟩ := m.tr z hz
    obtain ⟨x, hx⟩ := g.tr y (m.l _ _ hy)
    exact ⟨x, y, hx, hy⟩
  · rintro x y ⟨a, h1, h2⟩; exact (g.z _ _ h1).trans (m.z _ _ h2)
theorem Iso.simp {s t : Pd F × Pd F} (h : Iso O s t) (k : Simp O s.1 s.2) (m1 : Md O t.1) (m2 : Md O t.2) (le : ∀ x, t.1 x → t.2 x) : Simp O t.1 t.2 := by
  obtain ⟨G, g⟩ := h
  refine ⟨m1, m2, le, ?_, ?_⟩
  · obtain ⟨x, h1, h2⟩ := k.ne
    obtain ⟨y, hy⟩ := g.tl x h1
    exact ⟨y, g.r _ _ hy, fun z => h2 ((g.z _ _ hy).mpr z)⟩
  · rintro W mW lW hW ⟨w, hw, hn⟩ y hy
    have mB : Md O fun x => s.2 x ∧ ∃ y, G x y ∧ W y := by
      refine ⟨⟨⟨k.hi.sub.zero, _, g.zero, mW.sub.zero⟩, ?_⟩, ?_⟩
      · rintro x y c ⟨hx, a, h1, h2⟩ ⟨hy, b, h3, h4⟩
        exact ⟨k.hi.sub.tk _ _ _ hx hy, _, g.tk _ _ _ _ c h1 h3, mW.sub.tk _ _ _ h2 h4⟩
      · rintro A hA x ⟨hx, a, h1, h2⟩
        exact ⟨k.hi.inv A hA x hx, _, g.inv A hA _ _ h1, mW.inv A hA _ h2⟩
    obtain ⟨x0, hx0⟩ := g.tr w (hW w hw)
    have all := k.no _ mB (fun x hx => by
      obtain ⟨y, hy⟩ := g.tl x (k.le x hx)
      exact ⟨k.le x hx, y, hy, lW y ((g.z _ _ hy).mp hx)⟩) (fun x hx => hx.1) ⟨x0, ⟨g.l _ _ hx0, w, hx0, hw⟩, fun z => hn ((g.z _ _ hx0).mp z)⟩
    obtain ⟨x, hx⟩ := g.tr y hy
    obtain ⟨_, y', h1, h2⟩ := all x (g.l _ _ hx)
    -- y - y' is below
    have h3 := g.tk _ _ _ _ 1 hx h1
    have h4 : t.1 fun i => y i - 1 * y' i := (g.z _ _ h3).mp (by
      rw [show (fun i => x i - 1 * x i) = fun _ => 0 by funext i; grind]; exact k.lo.sub.zero)
    have h5 := mW.sub.tk _ _ (-1) (lW _ h4) h2
    rw [show (fun i => y i - 1 * y' i - -1 * y' i) = y by funext i; grind] at h5
    exact h5
def add (P Q : Pd F) : Pd F := fun x => ∃ a b, P a ∧ Q b ∧ x = fun i => a i + b i
theorem Md.add (hO : ∀ A, O A → Lin A) {P Q : Pd F} (p : Md O P) (q : Md O Q) : Md O (add P Q) := by
  refine ⟨⟨⟨_, _, p.sub.zero, q.sub.zero, by funext i; grind⟩, ?_⟩, ?_⟩
  · rintro x y c ⟨a, b, h1, h2, rfl⟩ ⟨a', b', h3, h4, rfl⟩
    exact ⟨_, _, p.sub.tk _ _ c h1 h3, q.sub.tk _ _ c h2 h4, by funext i; grind⟩
  · rintro A hA x ⟨a, b, h1, h2, rfl⟩
    refine ⟨_, _, p.inv A hA a h1, q.inv A hA b h2, ?_⟩
    have := (hO A hA).tk a b (-1)
    rw [show (fun i => a i - -1 * b i) = fun i => a i + b i by funext i; grind] at this
    rw [this]; funext i; grind
theorem Md.meet {P Q : Pd F} (p : Md O P) (q : Md O Q) : Md O fun x => P x ∧ Q x :=
  ⟨⟨⟨p.sub.zero, q.sub.zero⟩, fun x y c h1 h2 => ⟨p.sub.tk _ _ c h1.1 h2.1, q.sub.tk _ _ c h1.2 h2.2⟩⟩, fun A hA x h => ⟨p.inv A hA x h.1, q.inv A hA x h.2⟩⟩
/-- the second theorem: B over L is as B + a over a, where what a and B share is L -/
theorem iso_add (hO : ∀ A, O A → Lin A) {L a B : Pd F} (ma : Md O a) (mB : Md O B) (la : ∀ x, L x → a x) (lB : ∀ x, L x → B x) (h : ∀ x, a x → B x → L x) : Iso O (L, B) (a, add a B) := by
  refine ⟨fun x y => B x ∧ ∃ u, a u ∧ y = fun i => u i + x i, ⟨⟨mB.sub.zero, _, ma.sub.zero, by funext i; grind⟩, ?_, ?_, ?_, ?_, ?_, ?_, ?_⟩⟩
  · rintro x x' y y' c ⟨h1, u, h2, rfl⟩ ⟨h3, v, h4, rfl⟩
    exact ⟨mB.sub.tk _ _ c h1 h3, _, ma.sub.tk _ _ c h2 h4, by funext i; grind⟩
  · rintro A hA x y ⟨h1, u, h2, rfl⟩
    refine ⟨mB.inv A hA x h1, _, ma.inv A hA u h2, ?_⟩
    have := (hO A hA).tk u x (-1)
    rw [show (fun i => u i - -1 * x i) = fun i => u i + x i by funext i; grind] at this
    rw [this]; funext i; grind
  · rintro x y ⟨h1, _⟩; exact h1
  · rintro x y ⟨h1, u, h2, rfl⟩; exact ⟨u, x, h2, h1, rfl⟩
  · intro x hx; exact ⟨_, hx, _, ma.sub.zero, rfl⟩
  · rintro y ⟨u, x, h1, h2, rfl⟩; exact ⟨x, h2, u, h1, rfl⟩
  · rintro x y ⟨h1, u, h2, rfl⟩
    constructor
    · intro hx; exact ma.sub.add h2 (la x hx)
    · intro hy
      refine h x ?_ h1
      have := ma.sub.sub hy h2
      rw [show (fun i => u i + x i - u i) = x by funext i; grind] at this
      exact this
/-- a tower from L up to T -/
def Chain (O : (Vc F → Vc F) → Prop) (T : Pd F) : Pd F → List (Pd F) → Prop
  | L, [] => L = T
  | L, U :: r => Simp O L U ∧ Chain O T U r
def secs : Pd F → List (Pd F) → List (Pd F × Pd F)
  | _, [] => []
  | L, U :: r => (L, U) :: secs U r
open Classical in
noncomputable def cnt (O : (Vc F → Vc F) → Prop) (z : Pd F × Pd F) (l : List (Pd F × Pd F)) : Nat := l.countP fun s => decide (Iso O z s)
open Classical in
theorem cnt_cons (z s : Pd F × Pd F) (l : List (Pd F × Pd F)) : cnt O z (s :: l) = cnt O z l + if Iso O z s then 1 else 0 := by
  unfold cnt
  rw [List.countP_cons]
  by_cases h : Iso O z s <;> simp [h]
open Classical in
theorem cnt_iso {s t : Pd F × Pd F} (h : Iso O s t) (z : Pd F × Pd F) : (if Iso O z s then 1 else 0) = if Iso O z t then 1 else 0 := by
  by_cases k : Iso O z s
  · rw [if_pos k, if_pos (k.trans h)]
  · rw [if_neg k, if_neg fun q => k (q.trans h.symm)]
theorem pd_ext {P Q : Pd F} (h : ∀ x, P x ↔ Q x) : P = Q := funext fun x => propext (h x)
theorem Chain.md {T L : Pd F} {l : List (Pd F)} (mL : Md O L) (h : Chain O T L l) : Md O T ∧ ∀ x, L x → T x := by
  induction l generalizing L with
  | nil => cases h; exact ⟨mL, fun _ h => h⟩
  | cons U r ih =>
    obtain ⟨h1, h2⟩ := ih h.1.hi h.2
    exact ⟨h1, fun x hx => h2 x (h.1.le x hx)⟩
open Classical in
/-- a least part is taken out of a tower -/
theorem take_out (hO : ∀ A, O A → Lin A) {T : Pd F} : ∀ (l : List (Pd F)) (L B : Pd F), Chain O T L l → Simp O L B → (∀ x, B x → T x) →
    ∃ l', Chain O T B l' ∧ ∀ z, cnt O z (secs L l) = cnt O z (secs B l') + if Iso O z (L, B) then 1 else 0
  | [], L, B, h, sB, hT => by
    cases h
    obtain ⟨x, h1, h2⟩ := sB.ne
    exact absurd (hT x h1) h2
  | a :: r, L, B, ⟨sa, hr⟩, sB, hT => by
    by_cases hc : ∀ x, B x → a x
    · have e : B = a := pd_ext fun x => ⟨hc x, sa.no B sB.hi sB.le hc sB.ne x⟩
      subst e
      exact ⟨r, hr, fun z => cnt_cons z _ _⟩
    · have hm : ∀ x, a x → B x → L x := by
        intro x h1 h2
        apply Classical.byContradiction
        intro hn
        exact hc fun y hy => (sB.no (fun x => a x ∧ B x) (sa.hi.meet sB.hi) (fun x hx => ⟨sa.le x hx, sB.le x hx⟩) (fun x hx => hx.2) ⟨x, ⟨h1, h2⟩, hn⟩ y hy).1
      have i1 : Iso O (L, B) (a, add a B) := iso_add hO sa.hi sB.hi sa.le sB.le hm
      have i2 : Iso O (L, a) (B, add B a) := iso_add hO sB.hi sa.hi sB.le sa.le fun x h1 h2 => hm x h2 h1
      have ec : add a B = add B a := pd_ext fun x => ⟨fun ⟨u, v, h1, h2, e⟩ => ⟨v, u, h2, h1, by rw [e]; funext i; grind⟩, fun ⟨u, v, h1, h2, e⟩ => ⟨v, u, h2, h1, by rw [e]; funext i; grind⟩⟩
      have mA : Md O (add a B) := Md.add hO sa.hi sB.hi
      have s1 : Simp O a (add a B) := i1.simp sB sa.hi mA fun x hx => ⟨x, _, hx, sB.hi.sub.zero, by funext i; grind⟩
      have s2 : Simp O B (add a B) := by
        have := i2.simp sa sB.hi (ec ▸ mA) fun x hx => ⟨x, _, hx, sa.hi.sub.zero, by funext i; grind⟩
        rw [ec]; exact this
      obtain ⟨mT, aT⟩ := hr.md sa.hi
      obtain ⟨l', h1, h2⟩ := take_out hO r a (add a B) hr s1 (by
        rintro x ⟨u, v, h1, h2, rfl⟩
        exact mT.sub.add (aT u h1) (hT v h2))
      refine ⟨add a B :: l', ⟨s2, h1⟩, fun z => ?_⟩
      show cnt O z ((L, a) :: secs a r) = cnt O z ((B, add a B) :: secs (add a B) l') + _
      rw [cnt_cons, cnt_cons, h2 z, cnt_iso i1.symm z, cnt_iso i2 z, ec]
      omega
/-- any two towers have, for every part, as many parts alike to it -/
theorem jordan (hO : ∀ A, O A → Lin A) {T : Pd F} : ∀ (bs as : List (Pd F)) (L : Pd F), Chain O T L as → Chain O T L bs → ∀ z, cnt O z (secs L as) = cnt O z (secs L bs)
  | [], as, L, ha, hb, z => by
    cases hb
    cases as with
    | nil => rfl
    | cons a r =>
      obtain ⟨x, h1, h2⟩ := ha.1.ne
      exact absurd ((ha.2.md ha.1.hi).2 x h1) h2
  | B :: r, as, L, ha, ⟨sB, hr⟩, z => by
    obtain ⟨l', h1, h2⟩ := take_out hO as L B ha sB (hr.md sB.hi).2
    rw [h2 z, jordan hO r l' B h1 hr z]
    exact (cnt_cons z _ _).symm
end
end Still

set_option linter.all false
set_option maxHeartbeats 1000000
namespace Still
open Lean.Grind (CommRing)
/-! sums, tables, what lies across -/
section
variable {F : Type} [CommRing F] [DecidableEq F]
def sm : Nat → (Nat → F) → F
  | 0, _ => 0
  | n + 1, f => sm n f + f n
theorem sm_congr {f g : Nat → F} : ∀ {n : Nat}, (∀ i, i < n → f i = g i) → sm n f = sm n g
  | 0, _ => rfl
  | n + 1, h => by
    show sm n f + f n = sm n g + g n
    rw [sm_congr fun i hi => h i (by omega), h n (by omega)]
theorem sm_zero {f : Nat → F} : ∀ {n : Nat}, (∀ i, i < n → f i = 0) → sm n f = 0
  | 0, _ => rfl
  | n + 1, h => by
    show sm n f + f n = 0
    rw [sm_zero fun i hi => h i (by omega), h n (by omega)]; grind
theorem sm_tk (f g : Nat → F) (c : F) : ∀ n : Nat, sm n (fun i => f i - c * g i) = sm n f - c * sm n g
  | 0 => by show (0 : F) = 0 - c * 0; grind
  | n + 1 => by
    show sm n _ + (f n - c * g n) = (sm n f + f n) - c * (sm n g + g n)
    rw [sm_tk f g c n]; grind
theorem sm_mul (f : Nat → F) (c : F) : ∀ n : Nat, sm n (fun i => c * f i) = c * sm n f
  | 0 => by show (0 : F) = c * 0; grind
  | n + 1 => by
    show sm n _ + c * f n = c * (sm n f + f n)
    rw [sm_mul f c n]; grind
theorem sm_add (f g : Nat → F) : ∀ n : Nat, sm n (fun i => f i + g i) = sm n f + sm n g
  | 0 => by show (0 : F) = 0 + 0; grind
  | n + 1 => by
    show sm n _ + (f n + g n) = (sm n f + f n) + (sm n g + g n)
    rw [sm_add f g n]; grind
theorem sm_front (f : Nat → F) : ∀ n : Nat, sm (n + 1) f = f 0 + sm n fun i => f (i + 1)
  | 0 => by show (0 : F) + f 0 = f 0 + 0; grind
  | n + 1 => by
    show sm (n + 1) f + f (n + 1) = f 0 + (sm n (fun i => f (i + 1)) + f (n + 1))
    rw [sm_front f n]; grind
theorem sm_swap (f : Nat → Nat → F) (m : Nat) : ∀ n : Nat, sm n (fun i => sm m (f i)) = sm m fun j => sm n fun i => f i j
  | 0 => (sm_zero fun _ _ => rfl).symm
  | n + 1 => by
    show sm n (fun i => sm m (f i)) + sm m (f n) = _
    rw [sm_swap f m n, ← sm_add]; rfl
theorem sm_one {f : Nat → F} {k : Nat} : ∀ {n : Nat}, k < n → (∀ i, i < n → i ≠ k → f i = 0) → sm n f = f k
  | 0, h, _ => by omega
  | n + 1, h, g => by
    show sm n f + f n = f k
    by_cases e : k = n
    · subst e
      rw [sm_zero fun i hi => g i (by omega) (by omega)]; grind
    · rw [sm_one (show k < n by omega) fun i hi => g i (by omega), g n (by omega) (fun z => e z.symm)]; grind
def en (A : List (List F)) (i : Nat) : Vc F := vc (A.getD i [])
/-- what a table leads a row to -/
def lin (A : List (List F)) (x : Vc F) : Vc F := fun j => sm A.length fun i => x i * en A i j
theorem lin_lin (A : List (List F)) : Lin (lin A) := ⟨by funext j; exact sm_zero fun i _ => by grind, fun x y c => by
  funext j
  show sm A.length _ = sm A.length _ - c * sm A.length _
  rw [← sm_tk]
  exact sm_congr fun i _ => by grind⟩
def ledM (row : List F) (A : List (List F)) : List F := (row.zip A).foldl (fun f p => tkM f (0 - p.1) p.2) (List.replicate (A.getD 0 []).length 0)
theorem vc_cons (a : F) (r : List F) (i : Nat) : vc (a :: r) (i + 1) = vc r i := rfl
theorem en_cons (r : List F) (A : List (List F)) (i : Nat) : en (r :: A) (i + 1) = en A i := rfl
theorem led_fold {w : Nat} : ∀ {row : List F} {A : List (List F)} {f : List F}, row.length = A.length → (∀ r, r ∈ A → r.length = w) → f.length = w →
    ((row.zip A).foldl (fun f p => tkM f (0 - p.1) p.2) f).length = w ∧ ∀ j, vc ((row.zip A).foldl (fun f p => tkM f (0 - p.1) p.2) f) j = vc f j + sm A.length fun i => vc row i * en A i j
  | [], [], f, _, _, hf => ⟨hf, fun j => by show vc f j = vc f j + 0; grind⟩
  | [], _ :: _, f, h, _, _ => by simp at h
  | _ :: _, [], f, h, _, _ => by simp at h
  | a :: row, r :: A, f, h, g, hf => by
    have hr := g r List.mem_cons_self
    obtain ⟨h1, h2⟩ := led_fold (row := row) (A := A) (f := tkM f (0 - a) r) (by simpa using h) (fun s hs => g s (List.mem_cons_of_mem _ hs)) (by rw [tk_len (by omega)]; exact hf)
    refine ⟨h1, fun j => ?_⟩
    show vc ((row.zip A).foldl _ (tkM f (0 - a) r)) j = _
    rw [h2 j, vc_tk (by omega)]
    show _ = vc f j + sm (A.length + 1) _
    rw [sm_front]
    simp only [vc_cons, en_cons]
    show vc f j - (0 - a) * vc r j + _ = vc f j + (a * vc r j + _)
    grind
theorem led_ok {w : Nat} {row : List F} {A : List (List F)} (h : row.length = A.length) (g : ∀ r, r ∈ A → r.length = w) (ne : A ≠ []) : (ledM row A).length = w ∧ vc (ledM row A) = lin A (vc row) := by
  have hz : (A.getD 0 []).length = w := by
    cases A with
    | nil => exact absurd rfl ne
    | cons r A => exact g r List.mem_cons_self
  obtain ⟨h1, h2⟩ := led_fold (f := List.replicate (A.getD 0 []).length (0 : F)) h g (by rw [List.length_replicate, hz])
  refine ⟨h1, funext fun j => ?_⟩
  show vc ((row.zip A).foldl _ _) j = _
  rw [h2 j]
  have : vc (List.replicate (A.getD 0 []).length (0 : F)) j = 0 := by
    by_cases hj : j < (A.getD 0 []).length
    · exact vc_lt (by rw [List.getElem?_replicate, if_pos hj])
    · exact vc_ge (by rw [List.length_replicate]; omega)
  rw [this]
  show (0 : F) + lin A (vc row) j = lin A (vc row) j
  grind
/-- square tables of a size -/
def Sq (n : Nat) (A : List (List F)) : Prop := A.length = n ∧ ∀ r, r ∈ A → r.length = n
theorem Sq.fu {n : Nat} {A : List (List F)} (h : Sq n A) (x : Vc F) : Fu n (lin A x) := fun j hj => sm_zero fun i hi => by
  have : en A i j = 0 := by
    unfold en
    rw [List.getD_eq_getElem?_getD, List.getElem?_eq_getElem hi]
    exact vc_ge (by show (A[i]).length ≤ j; rw [h.2 _ (List.getElem_mem hi)]; exact hj)
  rw [this]; grind
def trM (n : Nat) (A : List (List F)) : List (List F) := (List.range n).map fun j => A.map fun row => vc row j
theorem tr_sq {n : Nat} {A : List (List F)} (h : A.length = n) : Sq n (trM n A) := ⟨by unfold trM; simp, fun r hr => by
  unfold trM at hr
  obtain ⟨j, _, rfl⟩ := List.mem_map.mp hr
  simp [h]⟩
theorem en_tr {n : Nat} {A : List (List F)} {i j : Nat} (hj : j < n) (hi : i < A.length) : en (trM n A) j i = en A i j := by
  unfold en trM
  rw [List.getD_eq_getElem?_getD, List.getElem?_map, List.getElem?_range hj]
  show vc (A.map fun row => vc row j) i = _
  apply vc_lt
  rw [List.getElem?_map, List.getD_eq_getElem?_getD, List.getElem?_eq_getElem hi]
  rfl
theorem tr_tr {n : Nat} {A : List (List F)} (h : Sq n A) : trM n (trM n A) = A := by
  have h1 := tr_sq h.1
  have h2 := tr_sq h1.1
  apply List.ext_getElem (by rw [h2.1, h.1])
  intro i hi hi2
  have hn : i < n := by rw [h2.1] at hi; exact hi
  apply vc_ext (by rw [h2.2 _ (List.getElem_mem hi), h.2 _ (List.getElem_mem hi2)])
  intro j
  by_cases hj : j < n
  · have e1 : en (trM n (trM n A)) i j = en A i j := by rw [en_tr hn (by rw [h1.1]; exact hj), en_tr hj (by rw [h.1]; exact hn)]
    unfold en at e1
    rw [List.getD_eq_getElem?_getD, List.getElem?_eq_getElem hi, List.getD_eq_getElem?_getD, List.getElem?_eq_getElem hi2] at e1
    exact e1
  · rw [vc_ge (by rw [h2.2 _ (List.getElem_mem hi)]; omega), vc_ge (by rw [h.2 _ (List.getElem_mem hi2)]; omega)]
def dot (n : Nat) (x y : Vc F) : F := sm n fun i => x i * y i
theorem dot_comm (n : Nat) (x y : Vc F) : dot n x y = dot n y x := sm_congr fun i _ => by grind
theorem dot_tk (n : Nat) (x y z : Vc F) (c : F) : dot n x (fun i => y i - c * z i) = dot n x y - c * dot n x z := by
  unfold dot
  rw [← sm_tk]
  exact sm_congr fun i _ => by grind
theorem dot_zero (n : Nat) (x : Vc F) : dot n x (fun _ => 0) = 0 := sm_zero fun i _ => by grind
theorem adj {n : Nat} {A : List (List F)} (h : Sq n A) (x y : Vc F) : dot n (lin A x) y = dot n x (lin (trM n A) y) := by
  unfold dot lin
  rw [h.1, (tr_sq h.1).1]
  have e1 : sm n (fun i => sm n (fun k => x k * en A k i) * y i) = sm n fun i => sm n fun k => x k * en A k i * y i := sm_congr fun i _ => by
    rw [show sm n (fun k => x k * en A k i * y i) = sm n fun k => y i * (x k * en A k i) from sm_congr fun k _ => by grind, sm_mul]; grind
  rw [e1, sm_swap]
  refine sm_congr fun k hk => ?_
  rw [← sm_mul]
  exact sm_congr fun i hi => by rw [en_tr hi (by rw [h.1]; exact hk)]; grind
def Ann (n : Nat) (P : Pd F) : Pd F := fun y => Fu n y ∧ ∀ x, P x → dot n x y = 0
theorem Ann.sub (n : Nat) (P : Pd F) : Sub (Ann n P) := ⟨⟨fun _ _ => rfl, fun x _ => dot_zero n x⟩, fun x y c hx hy => ⟨(Fu.sub n).tk x y c hx.1 hy.1, fun z hz => by rw [dot_tk, hx.2 z hz, hy.2 z hz]; grind⟩⟩
theorem Ann.anti {n : Nat} {P Q : Pd F} (h : ∀ x, P x → Q x) {y : Vc F} (hy : Ann n Q y) : Ann n P y := ⟨hy.1, fun x hx => hy.2 x (h x hx)⟩
def ops (tabs : List (List (List F))) : (Vc F → Vc F) → Prop := fun f => ∃ A, A ∈ tabs ∧ f = lin A
theorem ops_lin {tabs : List (List (List F))} : ∀ f, ops tabs f → Lin f := fun f ⟨A, _, e⟩ => e ▸ lin_lin A
theorem Ann.md {n : Nat} {tabs : List (List (List F))} (h : ∀ A, A ∈ tabs → Sq n A) {P : Pd F} (m : Md (ops tabs) P) : Md (ops (tabs.map (trM n))) (Ann n P) := by
  refine ⟨Ann.sub n P, ?_⟩
  rintro f ⟨B, hB, rfl⟩ y hy
  obtain ⟨A, hA, rfl⟩ := List.mem_map.mp hB
  refine ⟨(tr_sq (h A hA).1).fu y, fun x hx => ?_⟩
  rw [← adj (h A hA)]
  exact hy.2 _ (m.inv _ ⟨A, hA, rfl⟩ x hx)
/-! unit rows -/
def uM (n k : Nat) : List F := (List.range n).map fun j => if j = k then 1 else 0
theorem u_len (n k : Nat) : (uM (F := F) n k).length = n := by unfold uM; simp
theorem vc_u {n k : Nat} (hk : k < n) (j : Nat) : vc (uM (F := F) n k) j = if j = k then 1 else 0 := by
  by_cases hj : j < n
  · apply vc_lt; unfold uM; simp [hj]
  · rw [vc_ge (by rw [u_len]; omega), if_neg (by omega)]
def plainM (n : Nat) : List (List F) := (List.range n).map fun i => uM n i
theorem dot_set {n : Nat} {l : List F} {k : Nat} {v : F} (hl : l.length = n) (hk : k < n) (x : Vc F) : dot n x (vc (l.set k v)) = dot n x (vc l) + x k * (v - vc l k) := by
  have e : ∀ i, vc (l.set k v) i = if i = k then v else vc l i := by
    intro i
    by_cases hi : i < n
    · apply vc_lt
      rw [List.getElem?_set]
      by_cases e : k = i
      · subst e; simp [hl, hk]
      · rw [if_neg e, if_neg (fun z => e z.symm), vc_get (by omega)]
    · rw [if_neg (by omega), vc_ge (by rw [List.length_set]; omega), vc_ge (by omega)]
  have h1 : dot n x (vc (l.set k v)) = dot n x (fun i => vc l i - (-1) * (if i = k then v - vc l k else 0)) := sm_congr fun i _ => by
    rw [e i]
    by_cases q : i = k
    · rw [if_pos q]; simp only [if_pos q]; rw [q]; grind
    · rw [if_neg q]; simp only [if_neg q]; grind
  rw [h1, dot_tk]
  have h2 : dot n x (fun i => if i = k then v - vc l k else 0) = x k * (v - vc l k) := by
    unfold dot
    rw [sm_one hk fun i _ hi => by show x i * (if i = k then v - vc l k else 0) = 0; rw [if_neg hi]; grind]
    show x k * (if k = k then v - vc l k else 0) = _
    rw [if_pos rfl]
  rw [h2]; grind
/-- what the across of a form has at a place that is no lead -/
def arowM (n : Nat) (form : List (List F)) (q : Nat) : List F := form.foldl (fun l r => l.set (ld r) (0 - vc r q)) (uM n q)
def frees_ (n : Nat) (form : List (List F)) : List Nat := (List.range n).filter fun q => decide (q ∉ form.map ld)
theorem arow_fold {n : Nat} (q : Nat) : ∀ {form : List (List F)} {l : List F}, Pre n form → (∀ r, r ∈ form → ld r < n) → l.length = n → (∀ r, r ∈ form → vc l (ld r) = 0) →
    (form.foldl (fun l r => l.set (ld r) (0 - vc r q)) l).length = n ∧
    (∀ m, m ∉ form.map ld → vc (form.foldl (fun l r => l.set (ld r) (0 - vc r q)) l) m = vc l m) ∧
    ∀ x : Vc F, dot n x (vc (form.foldl (fun l r => l.set (ld r) (0 - vc r q)) l)) = dot n x (vc l) - cmb form (fun s => x (ld s)) q
  | [], l, _, _, hl, _ => ⟨hl, fun _ _ => rfl, fun x => by show dot n x (vc l) = dot n x (vc l) - 0; grind⟩
  | r :: t, l, g, hn, hl, hz => by
    have hr := hn r List.mem_cons_self
    have eset : ∀ i, i ≠ ld r → vc (l.set (ld r) (0 - vc r q)) i = vc l i := fun i hi => by
      show (l.set (ld r) (0 - vc r q))[i]?.getD 0 = l[i]?.getD 0
      rw [List.getElem?_set_ne (fun e => hi e.symm)]
    obtain ⟨h1, h2, h3⟩ := arow_fold q (form := t) (l := l.set (ld r) (0 - vc r q)) g.tail (fun s hs => hn s (List.mem_cons_of_mem _ hs)) (by rw [List.length_set]; exact hl) (fun s hs => by
      rw [eset _ (fun e => g.ne hs e.symm)]; exact hz s (List.mem_cons_of_mem _ hs))
    refine ⟨h1, fun m hm => ?_, fun x => ?_⟩
    · show vc (t.foldl _ _) m = _
      rw [h2 m (fun e => hm (List.mem_cons_of_mem _ e)), eset m (fun e => hm (e ▸ List.mem_cons_self))]
    · show dot n x (vc (t.foldl _ _)) = dot n x (vc l) - (x (ld r) * vc r q + cmb t (fun s => x (ld s)) q)
      rw [h3 x, dot_set hl hr, hz r List.mem_cons_self]; grind
theorem dot_u {n k : Nat} (hk : k < n) (x : Vc F) : dot n x (vc (uM n k)) = x k := by
  unfold dot
  rw [sm_one hk fun i _ hi => by rw [vc_u hk, if_neg hi]; grind]
  rw [vc_u hk, if_pos rfl]; grind
variable [Fd F]
theorem arow_ok {n : Nat} {form : List (List F)} (g : Pre n form) {q : Nat} (hq : q < n) (nq : q ∉ form.map ld) : (arowM n form q).length = n ∧ (∀ m, m ∉ form.map ld → vc (arowM n form q) m = if m = q then 1 else 0) ∧
    ∀ x : Vc F, dot n x (vc (arowM n form q)) = x q - cmb form (fun s => x (ld s)) q := by
  obtain ⟨h1, h2, h3⟩ := arow_fold q (l := uM n q) g (fun r hr => g.lt Fd.ne hr) (u_len n q) (fun r hr => by rw [vc_u hq, if_neg fun (e : ld r = q) => nq (e ▸ List.mem_map_of_mem hr)])
  exact ⟨h1, fun m hm => (h2 m hm).trans (vc_u hq m), fun x => (h3 x).trans (by rw [dot_u hq])⟩
theorem arow_ann {n : Nat} {form : List (List F)} (g : Pre n form) {q : Nat} (hq : q < n) (nq : q ∉ form.map ld) : Ann n (Spn form) (vc (arowM n form q)) := by
  obtain ⟨h1, _, h3⟩ := arow_ok g hq nq
  refine ⟨Fu.of h1, fun x hx => ?_⟩
  rw [h3 x, ← sp_cmb g hx]; grind
def acrM (n : Nat) (form : List (List F)) : List (List F) := lowM ((frees_ n form).map (arowM n form))
theorem mem_free {n : Nat} {form : List (List F)} {q : Nat} : q ∈ frees_ n form ↔ q < n ∧ q ∉ form.map ld := by
  unfold frees_; rw [List.mem_filter, List.mem_range, decide_eq_true_iff]
theorem acr_rows {n : Nat} {form : List (List F)} (g : Pre n form) : ∀ r, r ∈ (frees_ n form).map (arowM n form) → r.length = n := fun r hr => by
  obtain ⟨q, hq, rfl⟩ := List.mem_map.mp hr
  obtain ⟨h1, h2⟩ := mem_free.mp hq
  exact (arow_ok g h1 h2).1
theorem acr_lo {n : Nat} {form : List (List F)} (g : Pre n form) : Lo n (acrM n form) := low_lo (acr_rows g)
theorem acr_sp {n : Nat} {form : List (List F)} (g : Pre n form) (y : Vc F) : Spn (acrM n form) y ↔ Ann n (Spn form) y := by
  unfold acrM
  rw [low_sp (acr_rows g)]
  constructor
  · intro h
    refine h.le (Ann.sub _ _) fun r hr => ?_
    obtain ⟨q, hq, rfl⟩ := List.mem_map.mp hr
    obtain ⟨h1, h2⟩ := mem_free.mp hq
    exact arow_ann g h1 h2
  · intro hy
    have key : ∀ qs : List Nat, (∀ q, q ∈ qs → q ∈ frees_ n form) → qs.Nodup → ∃ z, Spn ((frees_ n form).map (arowM n form)) z ∧ ∀ m, m ∉ form.map ld → z m = if m ∈ qs then y m else 0 := by
      intro qs
      induction qs with
      | nil => intro _ _; exact ⟨_, (Spn.sub _).zero, fun m _ => by simp⟩
      | cons q t ih =>
        intro hq hn
        obtain ⟨n1, n2⟩ := List.nodup_cons.mp hn
        obtain ⟨z, h1, h2⟩ := ih (fun s hs => hq s (List.mem_cons_of_mem _ hs)) n2
        have hqf := hq q List.mem_cons_self
        obtain ⟨f1, f2⟩ := mem_free.mp hqf
        refine ⟨_, (Spn.sub _).add h1 ((Spn.sub _).smul (y q) (Spn.mem (List.mem_map_of_mem hqf))), fun m hm => ?_⟩
        show z m + y q * vc (arowM n form q) m = _
        rw [h2 m hm, (arow_ok g f1 f2).2.1 m hm]
        by_cases e : m = q
        · subst e; rw [if_neg n1, if_pos rfl, if_pos List.mem_cons_self]; grind
        · rw [if_neg e]
          by_cases e2 : m ∈ t
          · rw [if_pos e2, if_pos (List.mem_cons_of_mem _ e2)]; grind
          · rw [if_neg e2, if_neg fun q => by
              rcases List.mem_cons.mp q with q | q
              · exact e q
              · exact e2 q]; grind
    obtain ⟨z, h1, h2⟩ := key (frees_ n form) (fun _ h => h) (List.nodup_range.filter _)
    have hz : Ann n (Spn form) z := h1.le (Ann.sub _ _) fun r hr => by
      obtain ⟨q, hq, rfl⟩ := List.mem_map.mp hr
      obtain ⟨h1, h2⟩ := mem_free.mp hq
      exact arow_ann g h1 h2
    have hd := (Ann.sub n (Spn form)).sub hy hz
    have e : ∀ m, y m - z m = 0 := by
      intro m
      by_cases hm : m < n
      · by_cases hl : m ∈ form.map ld
        · obtain ⟨r, hr, rfl⟩ := List.mem_map.mp hl
          have h4 := hd.2 _ (Spn.mem hr)
          unfold dot at h4
          rw [sm_one (g.lt Fd.ne hr) fun i hi hne => ?_] at h4
          · rw [g.one r hr] at h4; grind
          · by_cases hl2 : i ∈ form.map ld
            · obtain ⟨s, hs, rfl⟩ := List.mem_map.mp hl2
              rw [g.zer r hr s hs (fun e => hne e.symm)]; grind
            · show vc r i * (y i - z i) = 0
              rw [h2 i hl2, if_pos (mem_free.mpr ⟨hi, hl2⟩)]; grind
        · rw [h2 m hl, if_pos (mem_free.mpr ⟨hm, hl⟩)]; grind
      · exact hd.1 m (by omega)
    rw [show y = z by funext m; have := e m; grind]
    exact h1
theorem ann_ann {n : Nat} {form : List (List F)} (g : Pre n form) {y : Vc F} (h : Ann n (Ann n (Spn form)) y) : Spn form y := by
  have hl := left_sp g (lst_len n y)
  rw [vc_lst' h.1] at hl
  have h0 : ∀ m, vc (leftM form (lst n y)) m = 0 := by
    intro m
    by_cases hm : m < n
    · by_cases hle : m ∈ form.map ld
      · obtain ⟨r, hr, rfl⟩ := List.mem_map.mp hle
        exact left_at g (lst_len n y) hr
      · have ha := arow_ann g hm hle
        have h1 := h.2 _ ha
        have h2 := ha.2 _ hl
        rw [dot_comm] at h2
        have h3 : dot n (vc (arowM n form m)) (fun i => y i - 1 * (y i - vc (leftM form (lst n y)) i)) = 0 := by
          rw [dot_tk, h1, h2]; grind
        unfold dot at h3
        rw [sm_one hm fun i hi hne => ?_] at h3
        · rw [(arow_ok g hm hle).2.1 m hle, if_pos rfl] at h3; grind
        · by_cases hl2 : i ∈ form.map ld
          · obtain ⟨s, hs, rfl⟩ := List.mem_map.mp hl2
            show vc (arowM n form m) (ld s) * (y (ld s) - 1 * (y (ld s) - vc (leftM form (lst n y)) (ld s))) = 0
            rw [left_at g (lst_len n y) hs]; grind
          · show vc (arowM n form m) i * (y i - 1 * (y i - vc (leftM form (lst n y)) i)) = 0
            rw [(arow_ok g hm hle).2.1 i hl2, if_neg hne]; grind
    · exact vc_ge (by rw [left_len g.row (lst_len n y)]; omega)
  rw [show (fun m => y m - vc (leftM form (lst n y)) m) = y by funext m; rw [h0]; grind] at hl
  exact hl
/-! independent rows -/
theorem low_ind {n : Nat} : ∀ {rows form : List (List F)}, Lo n form → (∀ r, r ∈ rows → r.length = n) → (∀ a r b, rows = a ++ r :: b → ¬ Spn (form ++ a) (vc r)) → (rows.foldl wrM form).length = form.length + rows.length
  | [], form, _, _, _ => rfl
  | r :: t, form, g, h, ni => by
    have h1 := h r List.mem_cons_self
    have hn : hasM form r = false := by
      cases q : hasM form r with
      | false => rfl
      | true =>
        have := (has_iff g.toPre h1).mp q
        exact absurd this (by have := ni [] r t rfl; rw [List.append_nil] at this; exact this)
    show (t.foldl wrM (wrM form r)).length = form.length + (t.length + 1)
    rw [low_ind (wr_lo g h1) (fun s hs => h s (List.mem_cons_of_mem _ hs)) fun a s b e hs => ?_, wr_len (n := n) hn]
    · omega
    · refine ni (r :: a) s b (by rw [e]; rfl) ?_
      refine hs.mono fun u hu => ?_
      rcases List.mem_append.mp hu with hu | hu
      · refine Spn.mono (fun v hv => ?_) ((wr_sp g h1 _).mp (Spn.mem hu))
        rcases List.mem_append.mp hv with hv | hv
        · exact Spn.mem (List.mem_append_left _ hv)
        · rw [List.mem_singleton.mp hv]; exact Spn.mem (List.mem_append_right _ List.mem_cons_self)
      · exact Spn.mem (List.mem_append_right _ (List.mem_cons_of_mem _ hu))
theorem split_len {α : Type} (p : α → Bool) : ∀ l : List α, (l.filter p).length + (l.filter fun x => !p x).length = l.length
  | [] => rfl
  | x :: t => by
    have := split_len p t
    cases h : p x <;> simp [h] <;> omega
theorem free_len {n : Nat} {form : List (List F)} (g : Pre n form) : (frees_ n form).length + form.length = n := by
  have h1 : ((List.range n).filter fun q => decide (q ∈ form.map ld)).length = form.length := by
    apply Nat.le_antisymm
    · have := nodup_le (a := (List.range n).filter fun q => decide (q ∈ form.map ld)) (b := form.map ld) (List.nodup_range.filter _) fun x hx => by
        simpa using (List.mem_filter.mp hx).2
      simpa using this
    · have := nodup_le (a := form.map ld) (b := (List.range n).filter fun q => decide (q ∈ form.map ld)) g.nd fun x hx => by
        rw [List.mem_filter]
        refine ⟨?_, by simpa using hx⟩
        obtain ⟨r, hr, rfl⟩ := List.mem_map.mp hx
        exact List.mem_range.mpr (g.lt Fd.ne hr)
      simpa using this
  have h2 := split_len (fun q => decide (q ∈ form.map ld)) (List.range n)
  rw [List.length_range, h1] at h2
  have h3 : (frees_ n form) = (List.range n).filter fun q => !decide (q ∈ form.map ld) := by
    unfold frees_
    congr 1
    funext q
    by_cases h : q ∈ form.map ld
    · rw [decide_eq_true h, decide_eq_false (fun z => z h)]; rfl
    · rw [decide_eq_false h, decide_eq_true h]; rfl
  rw [h3]
  omega
theorem acr_len {n : Nat} {form : List (List F)} (g : Pre n form) : (acrM n form).length + form.length = n := by
  have h := low_ind (n := n) (rows := (frees_ n form).map (arowM n form)) Lo.nil (acr_rows g) fun a r b e hs => by
    rw [List.nil_append] at hs
    obtain ⟨a', q', e1, e2, e3⟩ := List.map_eq_append_iff.mp e
    obtain ⟨q, b', e4, e5, e6⟩ := List.map_eq_cons_iff.mp e3
    subst e2 e5
    have hnd : (frees_ n form).Nodup := List.nodup_range.filter _
    rw [e1, e4] at hnd
    have hq : q ∈ frees_ n form := by rw [e1, e4]; simp
    obtain ⟨f1, f2⟩ := mem_free.mp hq
    have hz : ∀ x, Spn (a'.map (arowM n form)) x → x q = 0 := fun x hx => hx.le (P := fun x => x q = 0) ⟨rfl, fun x y c h1 h2 => by show x q - c * y q = 0; rw [h1, h2]; grind⟩ fun r hr => by
      obtain ⟨q2, hq2, rfl⟩ := List.mem_map.mp hr
      have hq3 : q2 ∈ frees_ n form := by rw [e1]; exact List.mem_append_left _ hq2
      obtain ⟨f3, f4⟩ := mem_free.mp hq3
      rw [(arow_ok g f3 f4).2.1 q f2, if_neg]
      intro z
      subst z
      exact (List.nodup_append.mp hnd).2.2 q hq2 q List.mem_cons_self rfl
    have := hz _ hs
    rw [(arow_ok g f1 f2).2.1 q f2, if_pos rfl] at this
    exact Fd.ne this
  have h2 := free_len g
  unfold acrM lowM
  rw [h, List.length_map]
  simp only [List.length_nil]
  omega
/-! the plain table -/
theorem plain_pre (n : Nat) : Lo n (plainM (F := F) n) := by
  have hm : ∀ r, r ∈ plainM (F := F) n → ∃ i, i < n ∧ r = uM n i ∧ leadM r = some i := by
    intro r hr
    unfold plainM at hr
    obtain ⟨i, hi, rfl⟩ := List.mem_map.mp hr
    rw [List.mem_range] at hi
    refine ⟨i, hi, rfl, lead_some.mpr ⟨?_, fun m hm => ?_⟩⟩
    · rw [vc_u hi, if_pos rfl]; exact Fd.ne
    · rw [vc_u hi, if_neg (by omega)]
  have e : (plainM (F := F) n).map ld = List.range n := by
    unfold plainM
    rw [List.map_map]
    conv => rhs; rw [← List.map_id (List.range n)]
    apply List.map_congr_left
    intro i hi
    rw [List.mem_range] at hi
    obtain ⟨j, hj, e1, e2⟩ := hm (uM n i) (List.mem_map.mpr ⟨i, List.mem_range.mpr hi, rfl⟩)
    have : leadM (uM (F := F) n i) = some i := lead_some.mpr ⟨by rw [vc_u hi, if_pos rfl]; exact Fd.ne, fun m hm => by rw [vc_u hi, if_neg (by omega)]⟩
    exact ld_of this
  refine ⟨⟨fun r hr => ?_, fun r hr => ?_, fun r hr => ?_, fun r hr s hs hne => ?_, by rw [e]; exact List.nodup_range⟩, by rw [e]; exact List.pairwise_lt_range⟩
  · obtain ⟨i, hi, rfl, _⟩ := hm r hr; exact u_len n i
  · obtain ⟨i, hi, rfl, h⟩ := hm r hr; rw [ld_of h]; exact h
  · obtain ⟨i, hi, rfl, h⟩ := hm r hr; rw [ld_of h, vc_u hi, if_pos rfl]
  · obtain ⟨i, hi, rfl, h⟩ := hm r hr
    obtain ⟨j, hj, rfl, h2⟩ := hm s hs
    rw [ld_of h2, vc_u hi, if_neg]
    rw [ld_of h, ld_of h2] at hne
    exact fun e => hne e.symm
theorem plain_len (n : Nat) : (plainM (F := F) n).length = n := by unfold plainM; simp
theorem full_sp {n : Nat} {form : List (List F)} (g : Lo n form) (h : form.length = n) {x : Vc F} (hx : Fu n x) : Spn form x := by
  have h2 := free_len g.toPre
  have hl := left_sp g.toPre (lst_len n x)
  have h0 : ∀ m, vc (leftM form (lst n x)) m = 0 := by
    intro m
    by_cases hm : m < n
    · have : m ∈ form.map ld := by
        apply Classical.byContradiction
        intro hn
        have h3 : m ∈ frees_ n form := mem_free.mpr ⟨hm, hn⟩
        have := List.length_pos_of_mem h3
        omega
      obtain ⟨r, hr, rfl⟩ := List.mem_map.mp this
      exact left_at g.toPre (lst_len n x) hr
    · exact vc_ge (by rw [left_len g.row (lst_len n x)]; omega)
  rw [show (fun m => vc (lst n x) m - vc (leftM form (lst n x)) m) = x by funext m; rw [h0, vc_lst hx]; grind] at hl
  exact hl
theorem plain_sp {n : Nat} {x : Vc F} : Spn (plainM n) x ↔ Fu n x := ⟨fun h => h.fu (plain_pre n).row, full_sp (plain_pre n) (plain_len n)⟩
theorem full_eq {n : Nat} {form : List (List F)} (g : Lo n form) (h : form.length = n) : form = plainM n := lo_unique g (plain_pre n) fun x => ⟨fun hx => plain_sp.mpr (hx.fu g.row), fun hx => full_sp g h (plain_sp.mp hx)⟩
end
end Still

set_option linter.all false
set_option maxHeartbeats 1000000
namespace Still
open Lean.Grind (CommRing)
/-! parts between, and tables that go along -/
section
variable {F : Type} [CommRing F] [DecidableEq F] [Fd F]
def betw (lower upper : List (List F)) : List (List F) := upper.filter fun r => decide (ld r ∉ lower.map ld)
def crdM (lower B : List (List F)) (x : List F) : List F := B.map fun one => vc (leftM lower x) (ld one)
def part1 (lower upper A : List (List F)) : List (List F) := (betw lower upper).map fun r => crdM lower (betw lower upper) (ledM r A)
def partM (lower upper : List (List F)) (tabs : List (List (List F))) : List (List (List F)) := tabs.map (part1 lower upper)
def cr (lower B : List (List F)) (x : Vc F) : Vc F := fun j => if j < B.length then x (ld (B.getD j [])) - cmb lower (fun r => x (ld r)) (ld (B.getD j [])) else 0
structure Sec (n : Nat) (tabs : List (List (List F))) (lower upper : List (List F)) : Prop where
  pos : 0 < n
  sq : ∀ A, A ∈ tabs → Sq n A
  l : Lo n lower
  u : Lo n upper
  le : ∀ x, Spn lower x → Spn upper x
  ml : Md (ops tabs) (Spn lower)
  mu : Md (ops tabs) (Spn upper)
variable {n : Nat} {tabs : List (List (List F))} {lower upper : List (List F)}
theorem cr_lin (lower B : List (List F)) : Lin (cr lower B) := by
  refine ⟨?_, fun x y c => ?_⟩
  · funext j
    unfold cr
    split
    · rw [cmb_zero fun r hr => by grind]; grind
    · rfl
  · funext j
    unfold cr
    split
    · rw [cmb_tk lower (fun r => x (ld r)) (fun r => y (ld r))]; grind
    · grind
theorem vc_crd (g : Pre n lower) {B : List (List F)} {x : List F} (hx : x.length = n) : vc (crdM lower B x) = cr lower B (vc x) := by
  funext j
  unfold cr
  by_cases hj : j < B.length
  · rw [if_pos hj, List.getD_eq_getElem?_getD, List.getElem?_eq_getElem hj]
    apply vc_lt
    unfold crdM
    rw [List.getElem?_map, List.getElem?_eq_getElem hj]
    show some (vc (leftM lower x) (ld B[j])) = _
    rw [vc_left g hx]; rfl
  · rw [if_neg hj]
    exact vc_ge (by unfold crdM; rw [List.length_map]; omega)
theorem cmb_sm (form : List (List F)) (c : List F → F) (k : Nat) : cmb form c k = sm form.length fun j => c (form.getD j []) * en form j k := by
  induction form with
  | nil => rfl
  | cons r t ih =>
    show c r * vc r k + cmb t c k = sm (t.length + 1) _
    rw [sm_front, ih]; rfl
theorem lin_sum {φ : Vc F → Vc F} (h : Lin φ) (v : Nat → Vc F) (c : Nat → F) : ∀ m : Nat, φ (fun k => sm m fun j => c j * v j k) = fun k => sm m fun j => c j * φ (v j) k
  | 0 => h.zero
  | m + 1 => by
    have e : (fun k => sm (m + 1) fun j => c j * v j k) = fun k => (sm m fun j => c j * v j k) - (-(c m)) * v m k := by
      funext k
      show sm m _ + c m * v m k = _
      grind
    rw [e, h.tk, lin_sum h v c m]
    funext k
    show _ = sm m _ + c m * φ (v m) k
    grind
theorem cmb_filter {form : List (List F)} {c : List F → F} {p : List F → Bool} (h : ∀ r, r ∈ form → p r = false → c r = 0) (k : Nat) : cmb form c k = cmb (form.filter p) c k := by
  induction form with
  | nil => rfl
  | cons r t ih =>
    have ih := ih fun s hs => h s (List.mem_cons_of_mem _ hs)
    show c r * vc r k + cmb t c k = _
    cases q : p r with
    | true =>
      rw [List.filter_cons_of_pos q, ih]; rfl
    | false =>
      rw [List.filter_cons_of_neg (by rw [q]; decide), ih, h r List.mem_cons_self q]; grind
namespace Sec
variable (S : Sec n tabs lower upper)
include S
theorem mem {b : List F} (hb : b ∈ betw lower upper) : b ∈ upper ∧ ld b ∉ lower.map ld := by
  unfold betw at hb
  rw [List.mem_filter, decide_eq_true_iff] at hb
  exact hb
theorem bl {b : List F} (hb : b ∈ betw lower upper) {r : List F} (hr : r ∈ lower) : vc b (ld r) = 0 := by
  obtain ⟨h1, h2⟩ := S.mem hb
  obtain ⟨s, hs, e⟩ := List.mem_map.mp (lo_lead S.l.toPre S.u.toPre S.le (List.mem_map_of_mem hr))
  rw [← e]
  exact S.u.zer b h1 s hs fun z => h2 (by rw [z, e]; exact List.mem_map_of_mem hr)
theorem getB {j : Nat} (hj : j < (betw lower upper).length) : (betw lower upper).getD j [] ∈ betw lower upper := by
  rw [List.getD_eq_getElem?_getD, List.getElem?_eq_getElem hj]
  exact List.getElem_mem hj
theorem bb {i j : Nat} (hi : i < (betw lower upper).length) (hj : j < (betw lower upper).length) : vc ((betw lower upper).getD i []) (ld ((betw lower upper).getD j [])) = if i = j then 1 else 0 := by
  obtain ⟨h1, _⟩ := S.mem (S.getB hi)
  obtain ⟨h2, _⟩ := S.mem (S.getB hj)
  by_cases e : i = j
  · subst e; rw [if_pos rfl]; exact S.u.one _ h1
  · rw [if_neg e]
    refine S.u.zer _ h1 _ h2 fun z => e ?_
    have hn : ((betw lower upper).map ld).Nodup := (List.filter_sublist.map ld).nodup S.u.nd
    have e1 : ((betw lower upper).map ld)[i]? = some (ld ((betw lower upper).getD i [])) := by
      rw [List.getElem?_map, List.getD_eq_getElem?_getD, List.getElem?_eq_getElem hi]; rfl
    have e2 : ((betw lower upper).map ld)[j]? = some (ld ((betw lower upper).getD j [])) := by
      rw [List.getElem?_map, List.getD_eq_getElem?_getD, List.getElem?_eq_getElem hj]; rfl
    exact (List.getElem?_inj (by rw [List.length_map]; exact hi) hn).mp (by rw [e1, e2, z])
theorem blen {b : List F} (hb : b ∈ betw lower upper) : b.length = n := S.u.row b (S.mem hb).1
theorem cr_b {i : Nat} (hi : i < (betw lower upper).length) : cr lower (betw lower upper) (vc ((betw lower upper).getD i [])) = fun j => if j < (betw lower upper).length ∧ i = j then 1 else 0 := by
  funext j
  unfold cr
  by_cases hj : j < (betw lower upper).length
  · rw [if_pos hj, S.bb hi hj, cmb_zero fun r hr => by rw [S.bl (S.getB hi) hr]; grind]
    by_cases e : i = j
    · rw [if_pos e, if_pos ⟨hj, e⟩]; grind
    · rw [if_neg e, if_neg fun z => e z.2]; grind
  · rw [if_neg hj, if_neg fun z => hj z.1]
theorem cr_fu (x : Vc F) : Fu (betw lower upper).length (cr lower (betw lower upper) x) := fun i hi => by unfold cr; rw [if_neg (by omega)]
/-- taken back: a row of the upper one is what its shares tell, but for a row of the lower one -/
theorem dec {x : Vc F} (hx : Spn upper x) : Spn lower fun k => x k - lin (betw lower upper) (cr lower (betw lower upper) x) k := by
  have hfu := hx.fu S.u.row
  have hl := left_sp S.l.toPre (lst_len n x)
  have hy : Spn upper (vc (leftM lower (lst n x))) := by
    have := (Spn.sub upper).sub hx (S.le _ hl)
    rw [show (fun i => x i - (vc (lst n x) i - vc (leftM lower (lst n x)) i)) = vc (leftM lower (lst n x)) by funext i; rw [vc_lst hfu]; grind] at this
    exact this
  have e : vc (leftM lower (lst n x)) = lin (betw lower upper) (cr lower (betw lower upper) x) := by
    funext k
    rw [sp_cmb S.u.toPre hy k, cmb_filter (p := fun r => decide (ld r ∉ lower.map ld)) fun r hr hp => ?_, cmb_sm]
    · refine sm_congr fun j hj => ?_
      have hj : j < (betw lower upper).length := hj
      show vc (leftM lower (lst n x)) (ld ((betw lower upper).getD j [])) * en (betw lower upper) j k = _
      unfold cr
      rw [if_pos hj, vc_left S.l.toPre (lst_len n x), vc_lst' hfu]
    · have hq : ld r ∈ lower.map ld := by
        apply Classical.byContradiction
        intro hn
        rw [decide_eq_true hn] at hp
        cases hp
      obtain ⟨s, hs, e⟩ := List.mem_map.mp hq
      rw [← e]
      exact left_at S.l.toPre (lst_len n x) hs
  rw [← e]
  rw [vc_lst' hfu] at hl
  exact hl
theorem lin_u (c : Vc F) : Spn upper (lin (betw lower upper) c) := by
  have e : lin (betw lower upper) c = fun k => sm (betw lower upper).length fun j => c j * en (betw lower upper) j k := rfl
  rw [e]
  have go : ∀ m, m ≤ (betw lower upper).length → Spn upper fun k => sm m fun j => c j * en (betw lower upper) j k := by
    intro m
    induction m with
    | zero => intro _; exact (Spn.sub upper).zero
    | succ m ih =>
      intro hm
      exact (Spn.sub upper).add (ih (by omega)) ((Spn.sub upper).smul (c m) (Spn.mem (S.mem (S.getB (show m < _ by omega))).1))
  exact go _ (Nat.le_refl _)
theorem cr_lower {x : Vc F} (hx : Spn lower x) : cr lower (betw lower upper) x = fun _ => 0 := by
  funext j
  unfold cr
  split
  · rw [sp_cmb S.l.toPre hx (ld _)]; grind
  · rfl
theorem ker {x : Vc F} (hx : Spn upper x) (h : cr lower (betw lower upper) x = fun _ => 0) : Spn lower x := by
  have := S.dec hx
  rw [h, (lin_lin _).zero] at this
  rw [show (fun k => x k - 0) = x by funext k; grind] at this
  exact this
theorem coef {c : Vc F} (hc : Fu (betw lower upper).length c) : cr lower (betw lower upper) (lin (betw lower upper) c) = c := by
  have e : lin (betw lower upper) c = fun k => sm (betw lower upper).length fun j => c j * en (betw lower upper) j k := rfl
  rw [e, lin_sum (cr_lin lower (betw lower upper)) (en (betw lower upper)) c]
  funext k
  by_cases hk : k < (betw lower upper).length
  · rw [sm_one hk fun i hi hne => ?_]
    · show c k * cr lower (betw lower upper) (vc ((betw lower upper).getD k [])) k = c k
      rw [S.cr_b hk]
      show c k * (if k < _ ∧ k = k then 1 else 0) = c k
      rw [if_pos ⟨hk, rfl⟩]; grind
    · show c i * cr lower (betw lower upper) (vc ((betw lower upper).getD i [])) k = 0
      rw [S.cr_b hi]
      show c i * (if k < _ ∧ i = k then 1 else 0) = 0
      rw [if_neg fun z => hne z.2]; grind
  · rw [hc k (by omega)]
    exact sm_zero fun i _ => by rw [S.cr_fu _ k (by omega)]; grind
theorem ne {A : List (List F)} (hA : A ∈ tabs) : A ≠ [] := fun z => by
  have := (S.sq A hA).1
  have := S.pos
  rw [z] at *
  simp at *
  omega
theorem led {A : List (List F)} (hA : A ∈ tabs) {r : List F} (hr : r.length = n) : (ledM r A).length = n ∧ vc (ledM r A) = lin A (vc r) := led_ok (by rw [hr, (S.sq A hA).1]) (S.sq A hA).2 (S.ne hA)
theorem part_sq {A : List (List F)} : Sq (betw lower upper).length (part1 lower upper A) := ⟨by unfold part1; rw [List.length_map], fun r hr => by
  unfold part1 at hr
  obtain ⟨b, _, rfl⟩ := List.mem_map.mp hr
  unfold crdM; rw [List.length_map]⟩
theorem en_part {A : List (List F)} (hA : A ∈ tabs) {i : Nat} (hi : i < (betw lower upper).length) : en (part1 lower upper A) i = cr lower (betw lower upper) (lin A (vc ((betw lower upper).getD i []))) := by
  have hb := S.getB hi
  obtain ⟨h1, h2⟩ := S.led hA (S.blen hb)
  rw [← h2, ← vc_crd S.l.toPre h1]
  unfold en part1
  rw [List.getD_eq_getElem?_getD, List.getElem?_map, List.getElem?_eq_getElem hi]
  rw [List.getD_eq_getElem?_getD, List.getElem?_eq_getElem hi]
  rfl
/-- the part's table does what the table does -/
theorem act {A : List (List F)} (hA : A ∈ tabs) {x : Vc F} (hx : Spn upper x) : cr lower (betw lower upper) (lin A x) = lin (part1 lower upper A) (cr lower (betw lower upper) x) := by
  have hd := S.ml.inv _ ⟨A, hA, rfl⟩ _ (S.dec hx)
  have e1 : (fun k => x k - lin (betw lower upper) (cr lower (betw lower upper) x) k) = fun k => x k - 1 * lin (betw lower upper) (cr lower (betw lower upper) x) k := by funext k; grind
  rw [e1, (lin_lin A).tk] at hd
  have h0 := S.cr_lower hd
  rw [(cr_lin lower (betw lower upper)).tk] at h0
  have e2 : lin A (lin (betw lower upper) (cr lower (betw lower upper) x)) = fun k => sm (betw lower upper).length fun j => cr lower (betw lower upper) x j * lin A (en (betw lower upper) j) k := lin_sum (lin_lin A) (en (betw lower upper)) (cr lower (betw lower upper) x) _
  rw [e2, lin_sum (cr_lin lower (betw lower upper)) (fun j => lin A (en (betw lower upper) j)) (cr lower (betw lower upper) x)] at h0
  funext k
  have h1 := congrFun h0 k
  have e3 : lin (part1 lower upper A) (cr lower (betw lower upper) x) k = sm (betw lower upper).length fun j => cr lower (betw lower upper) x j * cr lower (betw lower upper) (lin A (en (betw lower upper) j)) k := by
    unfold lin
    rw [S.part_sq.1]
    exact sm_congr fun j hj => by rw [S.en_part hA hj]; rfl
  rw [e3]
  have h1 : cr lower (betw lower upper) (lin A x) k - 1 * (sm (betw lower upper).length fun j => cr lower (betw lower upper) x j * cr lower (betw lower upper) (lin A (en (betw lower upper) j)) k) = 0 := h1
  grind
theorem size : (betw lower upper).length + lower.length = upper.length := by
  have h1 := split_len (fun r : List F => decide (ld r ∈ lower.map ld)) upper
  have h2 : (upper.filter fun r => decide (ld r ∈ lower.map ld)).length = lower.length := by
    have e : (upper.filter fun r => decide (ld r ∈ lower.map ld)).length = ((upper.filter fun r => decide (ld r ∈ lower.map ld)).map ld).length := by rw [List.length_map]
    rw [e]
    apply Nat.le_antisymm
    · have := nodup_le (a := (upper.filter fun r => decide (ld r ∈ lower.map ld)).map ld) (b := lower.map ld) ((List.filter_sublist.map ld).nodup S.u.nd) fun k hk => by
        obtain ⟨r, hr, rfl⟩ := List.mem_map.mp hk
        simpa using (List.mem_filter.mp hr).2
      simpa using this
    · have := nodup_le (a := lower.map ld) (b := (upper.filter fun r => decide (ld r ∈ lower.map ld)).map ld) S.l.nd fun k hk => by
        obtain ⟨s, hs, e⟩ := List.mem_map.mp (lo_lead S.l.toPre S.u.toPre S.le hk)
        exact List.mem_map.mpr ⟨s, List.mem_filter.mpr ⟨hs, by rw [e]; exact decide_eq_true hk⟩, e⟩
      simpa using this
  have h3 : betw lower upper = upper.filter fun r => !decide (ld r ∈ lower.map ld) := by
    unfold betw
    congr 1
    funext r
    by_cases h : ld r ∈ lower.map ld
    · rw [decide_eq_true h, decide_eq_false (fun z => z h)]; rfl
    · rw [decide_eq_false h, decide_eq_true h]; rfl
  rw [h3]
  omega
end Sec
/-! tight crews -/
def Tight (m : Nat) (tabs : List (List (List F))) : Prop := ∀ P : Pd F, Md (ops tabs) P → (∀ x, P x → Fu m x) → (∃ x, P x ∧ ∃ i, x i ≠ 0) → ∀ x, Fu m x → P x
theorem Sec.tight (S : Sec n tabs lower upper) (h : Simp (ops tabs) (Spn lower) (Spn upper)) : Tight (betw lower upper).length (partM lower upper tabs) := by
  rintro P mP hP ⟨v, hv, i, hi⟩ c hc
  have mW : Md (ops tabs) fun x => Spn upper x ∧ P (cr lower (betw lower upper) x) := by
    refine ⟨⟨⟨(Spn.sub _).zero, by rw [(cr_lin _ _).zero]; exact mP.sub.zero⟩, fun x y c hx hy => ⟨(Spn.sub _).tk _ _ c hx.1 hy.1, by rw [(cr_lin _ _).tk]; exact mP.sub.tk _ _ c hx.2 hy.2⟩⟩, ?_⟩
    rintro f ⟨A, hA, rfl⟩ x ⟨h1, h2⟩
    refine ⟨S.mu.inv _ ⟨A, hA, rfl⟩ x h1, ?_⟩
    rw [S.act hA h1]
    exact mP.inv _ ⟨_, List.mem_map_of_mem hA, rfl⟩ _ h2
  have all := h.no _ mW (fun x hx => ⟨S.le x hx, by rw [S.cr_lower hx]; exact mP.sub.zero⟩) (fun x hx => hx.1)
    ⟨lin (betw lower upper) v, ⟨S.lin_u v, by rw [S.coef (hP v hv)]; exact hv⟩, fun z => hi (by
      have := S.cr_lower z
      rw [S.coef (hP v hv)] at this
      rw [this])⟩
  have := (all _ (S.lin_u c)).2
  rw [S.coef hc] at this
  exact this
theorem Sec.simp (S : Sec n tabs lower upper) (h : Tight (betw lower upper).length (partM lower upper tabs)) (hne : ∃ x, Spn upper x ∧ ¬ Spn lower x) : Simp (ops tabs) (Spn lower) (Spn upper) := by
  refine ⟨S.ml, S.mu, S.le, hne, ?_⟩
  rintro W mW lW Wu ⟨w, hw, hn⟩ x hx
  have mP : Md (ops (partM lower upper tabs)) fun c => ∃ x, W x ∧ c = cr lower (betw lower upper) x := by
    refine ⟨⟨⟨_, mW.sub.zero, (cr_lin _ _).zero.symm⟩, ?_⟩, ?_⟩
    · rintro x y c ⟨a, h1, rfl⟩ ⟨b, h2, rfl⟩
      exact ⟨_, mW.sub.tk _ _ c h1 h2, ((cr_lin _ _).tk _ _ _).symm⟩
    · rintro f ⟨B, hB, rfl⟩ x ⟨a, h1, rfl⟩
      unfold partM at hB
      obtain ⟨A, hA, rfl⟩ := List.mem_map.mp hB
      exact ⟨_, mW.inv _ ⟨A, hA, rfl⟩ a h1, (S.act hA (Wu a h1)).symm⟩
  obtain ⟨a, h1, h2⟩ := h _ mP (fun c ⟨a, _, e⟩ => e ▸ S.cr_fu a) ⟨_, ⟨w, hw, rfl⟩, Classical.byContradiction fun q => hn (S.ker (Wu w hw) (funext fun i => Classical.byContradiction fun z => q ⟨i, z⟩))⟩ _ (S.cr_fu x)
  have h3 : Spn lower fun k => x k - 1 * a k := S.ker ((Spn.sub _).tk _ _ 1 hx (Wu a h1)) (by rw [(cr_lin _ _).tk, h2]; funext k; grind)
  have h4 := mW.sub.tk _ _ (-1) (lW _ h3) h1
  rw [show (fun i => x i - 1 * a i - -1 * a i) = x by funext i; grind] at h4
  exact h4
/-! tables that go along -/
def tm (m w : Nat) (t : Vc F) (c : Vc F) : Vc F := fun j => if j < w then sm m fun i => c i * t (i * w + j) else 0
theorem tm_lin (m w : Nat) (t : Vc F) : Lin (tm m w t) := by
  refine ⟨?_, fun x y c => ?_⟩
  · funext j; unfold tm; split
    · exact sm_zero fun i _ => by grind
    · rfl
  · funext j; unfold tm; split
    · rw [← sm_tk]; exact sm_congr fun i _ => by grind
    · grind
theorem tm_fu (m w : Nat) (t c : Vc F) : Fu w (tm m w t c) := fun j hj => by unfold tm; rw [if_neg (by omega)]
/-- t goes along from the one table to the other -/
def Goes (m w : Nat) (A B : List (List F)) (t : Vc F) : Prop := ∀ i, i < m → ∀ j, j < w → (sm m fun a => en A i a * t (a * w + j)) = sm w fun b => t (i * w + b) * en B b j
theorem goes_tm {m w : Nat} {A B : List (List F)} {t : Vc F} (h : Goes m w A B t) (hA : Sq m A) (hB : Sq w B) (c : Vc F) : tm m w t (lin A c) = lin B (tm m w t c) := by
  funext j
  by_cases hj : j < w
  · unfold tm
    rw [if_pos hj]
    unfold lin
    rw [hA.1, hB.1]
    have e1 : sm m (fun a => sm m (fun i => c i * en A i a) * t (a * w + j)) = sm m fun a => sm m fun i => c i * (en A i a * t (a * w + j)) := sm_congr fun a _ => by
      rw [show sm m (fun i => c i * (en A i a * t (a * w + j))) = sm m fun i => t (a * w + j) * (c i * en A i a) from sm_congr fun i _ => by grind, sm_mul]; grind
    rw [e1, sm_swap]
    have e2 : sm m (fun i => sm m fun a => c i * (en A i a * t (a * w + j))) = sm m fun i => sm w fun b => c i * (t (i * w + b) * en B b j) := sm_congr fun i hi => by
      rw [sm_mul, h i hi j hj, sm_mul]
    rw [e2, sm_swap]
    refine sm_congr fun b hb => ?_
    show _ = (if b < w then sm m (fun i => c i * t (i * w + b)) else 0) * en B b j
    rw [if_pos hb]
    rw [show sm m (fun i => c i * (t (i * w + b) * en B b j)) = sm m fun i => en B b j * (c i * t (i * w + b)) from sm_congr fun i _ => by grind, sm_mul]; grind
  · rw [tm_fu m w t _ j (by omega), hB.fu _ j (by omega)]
theorem tm_unit {m w : Nat} {t : Vc F} {i j : Nat} (hi : i < m) (hj : j < w) : tm m w t (fun k => if k < m ∧ i = k then 1 else 0) j = t (i * w + j) := by
  unfold tm
  rw [if_pos hj, sm_one hi fun k hk hne => by show (if k < m ∧ i = k then (1 : F) else 0) * t (k * w + j) = 0; rw [if_neg fun z => hne z.2.symm]; grind]
  show (if i < m ∧ i = i then (1 : F) else 0) * t (i * w + j) = _
  rw [if_pos ⟨hi, rfl⟩]; grind
theorem t_zero {m w : Nat} {t : Vc F} (ht : Fu (m * w) t) (h : ∀ i, i < m → ∀ j, j < w → t (i * w + j) = 0) (k : Nat) : t k = 0 := by
  by_cases hk : k < m * w
  · have hw : 0 < w := Nat.pos_of_ne_zero fun z => by subst z; simp at hk
    have h1 := h (k / w) (Nat.div_lt_of_lt_mul (by rw [Nat.mul_comm]; exact hk)) (k % w) (Nat.mod_lt _ hw)
    rw [Nat.mul_comm, Nat.div_add_mod] at h1
    exact h1
  · exact ht k (by omega)
variable {lower' upper' : List (List F)}
/-- a table that goes along between tight parts makes them alike -/
theorem iso_of_goes (S : Sec n tabs lower upper) (S' : Sec n tabs lower' upper') (k : Simp (ops tabs) (Spn lower) (Spn upper)) (k' : Simp (ops tabs) (Spn lower') (Spn upper')) {t : Vc F} (ht : Fu ((betw lower upper).length * (betw lower' upper').length) t) (nz : ∃ i, t i ≠ 0)
    (h : ∀ A, A ∈ tabs → Goes (betw lower upper).length (betw lower' upper').length (part1 lower upper A) (part1 lower' upper' A) t) : Iso (ops tabs) (Spn lower, Spn upper) (Spn lower', Spn upper') := by
  have lT := tm_lin (betw lower upper).length (betw lower' upper').length t
  have key : ∀ {x : Vc F} {A : List (List F)}, A ∈ tabs → Spn upper x → tm (betw lower upper).length (betw lower' upper').length t (cr lower (betw lower upper) (lin A x)) = lin (part1 lower' upper' A) (tm (betw lower upper).length (betw lower' upper').length t (cr lower (betw lower upper) x)) := fun {x A} hA hx => by
    rw [S.act hA hx, goes_tm (h A hA) S.part_sq S'.part_sq]
  have nt : ¬ ∀ x, Spn upper x → tm (betw lower upper).length (betw lower' upper').length t (cr lower (betw lower upper) x) = fun _ => 0 := by
    intro hz
    obtain ⟨i, hi⟩ := nz
    refine hi (t_zero ht (fun a ha b hb => ?_) i)
    have h1 := hz _ (Spn.mem (S.mem (S.getB ha)).1)
    rw [S.cr_b ha] at h1
    have h2 := congrFun h1 b
    rw [tm_unit ha hb] at h2
    exact h2
  have im : ∀ x, Spn upper x → ∃ y, Spn upper' y ∧ cr lower' (betw lower' upper') y = tm (betw lower upper).length (betw lower' upper').length t (cr lower (betw lower upper) x) := fun x hx => ⟨_, S'.lin_u _, S'.coef (tm_fu _ _ _ _)⟩
  refine ⟨fun x y => Spn upper x ∧ Spn upper' y ∧ cr lower' (betw lower' upper') y = tm (betw lower upper).length (betw lower' upper').length t (cr lower (betw lower upper) x), ⟨⟨(Spn.sub _).zero, (Spn.sub _).zero, by rw [(cr_lin _ _).zero, (cr_lin _ _).zero, lT.zero]⟩, ?_, ?_, fun x y h => h.1, fun x y h => h.2.1, ?_, ?_, ?_⟩⟩
  · rintro x x' y y' c ⟨h1, h2, h3⟩ ⟨h4, h5, h6⟩
    exact ⟨(Spn.sub _).tk _ _ c h1 h4, (Spn.sub _).tk _ _ c h2 h5, by rw [(cr_lin _ _).tk, (cr_lin _ _).tk, lT.tk, h3, h6]⟩
  · rintro f ⟨A, hA, rfl⟩ x y ⟨h1, h2, h3⟩
    exact ⟨S.mu.inv _ ⟨A, hA, rfl⟩ x h1, S'.mu.inv _ ⟨A, hA, rfl⟩ y h2, by rw [S'.act hA h2, h3, key hA h1]⟩
  · intro x hx
    obtain ⟨y, h1, h2⟩ := im x hx
    exact ⟨y, hx, h1, h2⟩
  · intro y hy
    have mI : Md (ops tabs) fun y => Spn upper' y ∧ ∃ x, Spn upper x ∧ cr lower' (betw lower' upper') y = tm (betw lower upper).length (betw lower' upper').length t (cr lower (betw lower upper) x) := by
      refine ⟨⟨⟨(Spn.sub _).zero, _, (Spn.sub _).zero, by rw [(cr_lin _ _).zero, (cr_lin _ _).zero, lT.zero]⟩, ?_⟩, ?_⟩
      · rintro y y' c ⟨h1, x, h2, h3⟩ ⟨h4, x', h5, h6⟩
        exact ⟨(Spn.sub _).tk _ _ c h1 h4, _, (Spn.sub _).tk _ _ c h2 h5, by rw [(cr_lin _ _).tk, (cr_lin _ _).tk, lT.tk, h3, h6]⟩
      · rintro f ⟨A, hA, rfl⟩ y ⟨h1, x, h2, h3⟩
        exact ⟨S'.mu.inv _ ⟨A, hA, rfl⟩ y h1, _, S.mu.inv _ ⟨A, hA, rfl⟩ x h2, by rw [S'.act hA h1, h3, key hA h2]⟩
    obtain ⟨_, x, h1, h2⟩ := k'.no _ mI (fun y hy => ⟨S'.le y hy, _, (Spn.sub _).zero, by rw [S'.cr_lower hy, (cr_lin _ _).zero, lT.zero]⟩) (fun y hy => hy.1) (by
      apply Classical.byContradiction
      intro hn
      refine nt fun x hx => ?_
      obtain ⟨y, h1, h2⟩ := im x hx
      rw [← h2]
      apply S'.cr_lower
      exact Classical.byContradiction fun q => hn ⟨y, ⟨h1, x, hx, h2⟩, q⟩) y hy
    exact ⟨x, h1, hy, h2⟩
  · rintro x y ⟨h1, h2, h3⟩
    constructor
    · intro hx
      rw [S.cr_lower hx, lT.zero] at h3
      exact S'.ker h2 h3
    · intro hy
      rw [S'.cr_lower hy] at h3
      apply Classical.byContradiction
      intro hn
      have mK : Md (ops tabs) fun x => Spn upper x ∧ tm (betw lower upper).length (betw lower' upper').length t (cr lower (betw lower upper) x) = fun _ => 0 := by
        refine ⟨⟨⟨(Spn.sub _).zero, by rw [(cr_lin _ _).zero, lT.zero]⟩, fun x y c hx hy => ⟨(Spn.sub _).tk _ _ c hx.1 hy.1, by rw [(cr_lin _ _).tk, lT.tk, hx.2, hy.2]; funext i; grind⟩⟩, ?_⟩
        rintro f ⟨A, hA, rfl⟩ x ⟨h1, h2⟩
        exact ⟨S.mu.inv _ ⟨A, hA, rfl⟩ x h1, by rw [key hA h1, h2, (lin_lin _).zero]⟩
      exact nt fun z hz => (k.no _ mK (fun x hx => ⟨S.le x hx, by rw [S.cr_lower hx, lT.zero]⟩) (fun x hx => hx.1) ⟨x, ⟨h1, h3.symm⟩, hn⟩ z hz).2
/-- alike parts: a table that goes along, other than nought; as large -/
theorem goes_of_iso (S : Sec n tabs lower upper) (S' : Sec n tabs lower' upper') (hne : ∃ x, Spn upper x ∧ ¬ Spn lower x) (h : Iso (ops tabs) (Spn lower, Spn upper) (Spn lower', Spn upper')) :
    (betw lower upper).length ≤ (betw lower' upper').length ∧ ∃ t : Vc F, Fu ((betw lower upper).length * (betw lower' upper').length) t ∧ (∃ i, t i ≠ 0) ∧ ∀ A, A ∈ tabs → Goes (betw lower upper).length (betw lower' upper').length (part1 lower upper A) (part1 lower' upper' A) t := by
  obtain ⟨G, g⟩ := h
  have hch : ∀ i, ∃ y, i < (betw lower upper).length → G (vc ((betw lower upper).getD i [])) y := fun i => by
    by_cases hi : i < (betw lower upper).length
    · obtain ⟨y, hy⟩ := g.tl _ (Spn.mem (S.mem (S.getB hi)).1)
      exact ⟨y, fun _ => hy⟩
    · exact ⟨fun _ => 0, fun z => absurd z hi⟩
  obtain ⟨ys, hys⟩ : ∃ ys : Nat → Vc F, ∀ i, i < (betw lower upper).length → G (vc ((betw lower upper).getD i [])) (ys i) := ⟨fun i => Classical.choose (hch i), fun i hi => Classical.choose_spec (hch i) hi⟩
  have gz : ∀ {x y}, G x y → Spn lower x → cr lower' (betw lower' upper') y = fun _ => 0 := fun {x y} h hx => S'.cr_lower ((g.z _ _ h).mp hx)
  have gs : ∀ (c : Vc F) (m : Nat), m ≤ (betw lower upper).length → G (fun k => sm m fun j => c j * en (betw lower upper) j k) (fun k => sm m fun j => c j * ys j k) := by
    intro c m
    induction m with
    | zero => intro _; exact g.zero
    | succ m ih =>
      intro hm
      have := g.tk _ _ _ _ (-(c m)) (ih (by omega)) (hys m (by omega))
      rw [show (fun i => sm m (fun j => c j * en (betw lower upper) j i) - -(c m) * vc ((betw lower upper).getD m []) i) = fun k => sm (m + 1) fun j => c j * en (betw lower upper) j k by
        funext i; show _ = sm m _ + c m * en (betw lower upper) m i; unfold en; grind] at this
      rw [show (fun i => sm m (fun j => c j * ys j i) - -(c m) * ys m i) = fun k => sm (m + 1) fun j => c j * ys j k by
        funext i; show _ = sm m _ + c m * ys m i; grind] at this
      exact this
  -- what goes along, by the shares
  have main : ∀ {x y}, G x y → cr lower' (betw lower' upper') y = fun k => sm (betw lower upper).length fun j => cr lower (betw lower upper) x j * cr lower' (betw lower' upper') (ys j) k := by
    intro x y hxy
    have hx := g.l _ _ hxy
    have h1 := g.tk _ _ _ _ 1 hxy (gs (cr lower (betw lower upper) x) _ (Nat.le_refl _))
    have h2 := gz h1 (by
      have := S.dec hx
      rw [show (fun i => x i - 1 * sm (betw lower upper).length (fun j => cr lower (betw lower upper) x j * en (betw lower upper) j i)) = fun k => x k - lin (betw lower upper) (cr lower (betw lower upper) x) k by
        funext i; show _ = x i - sm _ _; grind]
      exact this)
    rw [(cr_lin _ _).tk, lin_sum (cr_lin lower' (betw lower' upper')) ys] at h2
    funext k
    have := congrFun h2 k
    have h3 : cr lower' (betw lower' upper') y k - 1 * (sm (betw lower upper).length fun j => cr lower (betw lower upper) x j * cr lower' (betw lower' upper') (ys j) k) = 0 := this
    grind
  have hfy : ∀ i, Fu (betw lower' upper').length (cr lower' (betw lower' upper') (ys i)) := fun i => S'.cr_fu _
  refine ⟨?_, fun k => if k < (betw lower upper).length * (betw lower' upper').length then cr lower' (betw lower' upper') (ys (k / (betw lower' upper').length)) (k % (betw lower' upper').length) else 0, fun k hk => if_neg (by omega), ?_, ?_⟩
  · -- the sizes
    have hl := low_ind (n := (betw lower' upper').length) (rows := (List.range (betw lower upper).length).map fun i => lst (betw lower' upper').length (cr lower' (betw lower' upper') (ys i))) Lo.nil (fun r hr => by
      obtain ⟨i, _, rfl⟩ := List.mem_map.mp hr
      exact lst_len _ _) fun a r b e hs => by
        rw [List.nil_append] at hs
        obtain ⟨a', q', e1, e2, e3⟩ := List.map_eq_append_iff.mp e
        obtain ⟨i, b', e4, e5, e6⟩ := List.map_eq_cons_iff.mp e3
        subst e2 e5
        rw [e4] at e1
        have hp := List.pairwise_lt_range (n := (betw lower upper).length)
        rw [e1, List.pairwise_append] at hp
        have hi : i < (betw lower upper).length := List.mem_range.mp (by rw [e1]; simp)
        have hz : ∀ z, Spn (a'.map fun i => lst (betw lower' upper').length (cr lower' (betw lower' upper') (ys i))) z → ∃ x y, G x y ∧ cr lower' (betw lower' upper') y = z ∧ cr lower (betw lower upper) x i = 0 := fun z hz =>
          hz.le (P := fun z => ∃ x y, G x y ∧ cr lower' (betw lower' upper') y = z ∧ cr lower (betw lower upper) x i = 0) ⟨⟨_, _, g.zero, (cr_lin _ _).zero, by rw [(cr_lin _ _).zero]⟩, by
            rintro z z' c ⟨x, y, h1, rfl, h2⟩ ⟨x', y', h3, rfl, h4⟩
            exact ⟨_, _, g.tk _ _ _ _ c h1 h3, (cr_lin _ _).tk _ _ _, by rw [(cr_lin _ _).tk]; show _ - c * _ = (0 : F); rw [h2, h4]; grind⟩⟩ fun r hr => by
            obtain ⟨j, hj, rfl⟩ := List.mem_map.mp hr
            have hj2 : j < (betw lower upper).length := List.mem_range.mp (by rw [e1]; exact List.mem_append_left _ hj)
            refine ⟨_, _, hys j hj2, (vc_lst' (hfy j)).symm, ?_⟩
            rw [S.cr_b hj2]
            exact if_neg fun z => by have := hp.2.2 j hj i List.mem_cons_self; omega
        obtain ⟨x, y, h1, h2, h3⟩ := hz _ hs
        rw [vc_lst' (hfy i)] at h2
        have h4 := g.tk _ _ _ _ 1 h1 (hys i hi)
        have h5 := (g.z _ _ h4).mpr (S'.ker ((Spn.sub _).tk _ _ 1 (g.r _ _ h1) (g.r _ _ (hys i hi))) (by rw [(cr_lin _ _).tk, h2]; funext k; grind))
        have h6 := congrFun (S.cr_lower h5) i
        rw [(cr_lin _ _).tk, S.cr_b hi] at h6
        have h7 : cr lower (betw lower upper) x i - 1 * (if i < (betw lower upper).length ∧ i = i then 1 else 0) = 0 := h6
        rw [h3, if_pos ⟨hi, rfl⟩] at h7
        have := Fd.ne (F := F)
        exact this (by grind)
    have h2 := lo_len (low_lo (n := (betw lower' upper').length) (rows := (List.range (betw lower upper).length).map fun i => lst (betw lower' upper').length (cr lower' (betw lower' upper') (ys i))) fun r hr => by
      obtain ⟨i, _, rfl⟩ := List.mem_map.mp hr
      exact lst_len _ _).toPre
    unfold lowM at h2
    rw [hl] at h2
    simp at h2
    exact h2
  · -- it is not nought
    obtain ⟨x, h1, h2⟩ := hne
    obtain ⟨y, hy⟩ := g.tl x h1
    apply Classical.byContradiction
    intro hn
    have hz : ∀ i, i < (betw lower upper).length → cr lower' (betw lower' upper') (ys i) = fun _ => 0 := fun i hi => funext fun j => by
      by_cases hj : j < (betw lower' upper').length
      · apply Classical.byContradiction
        intro q
        refine hn ⟨i * (betw lower' upper').length + j, ?_⟩
        have hlt : i * (betw lower' upper').length + j < (betw lower upper).length * (betw lower' upper').length := by
          calc i * (betw lower' upper').length + j < i * (betw lower' upper').length + (betw lower' upper').length := by omega
            _ = (i + 1) * (betw lower' upper').length := by rw [Nat.add_mul, Nat.one_mul]
            _ ≤ _ := Nat.mul_le_mul_right _ hi
        show ¬ (if i * (betw lower' upper').length + j < _ then _ else _) = (0 : F)
        rw [if_pos hlt, Nat.mul_comm, Nat.mul_add_div (by omega), Nat.mul_add_mod, Nat.div_eq_of_lt hj, Nat.mod_eq_of_lt hj]
        exact q
      · exact hfy i j (by omega)
    refine h2 ((g.z _ _ hy).mpr (S'.ker (g.r _ _ hy) ?_))
    rw [main hy]
    funext k
    exact sm_zero fun j hj => by rw [hz j hj]; grind
  · intro A hA i hi j hj
    have hG := g.inv _ ⟨A, hA, rfl⟩ _ _ (hys i hi)
    have h1 := congrFun (main hG) j
    rw [S'.act hA (g.r _ _ (hys i hi))] at h1
    have ht : ∀ a, a < (betw lower upper).length → ∀ b, b < (betw lower' upper').length → (if a * (betw lower' upper').length + b < (betw lower upper).length * (betw lower' upper').length then cr lower' (betw lower' upper') (ys ((a * (betw lower' upper').length + b) / (betw lower' upper').length)) ((a * (betw lower' upper').length + b) % (betw lower' upper').length) else 0) = cr lower' (betw lower' upper') (ys a) b := fun a ha b hb => by
      have hlt : a * (betw lower' upper').length + b < (betw lower upper).length * (betw lower' upper').length := by
        calc a * (betw lower' upper').length + b < a * (betw lower' upper').length + (betw lower' upper').length := by omega
          _ = (a + 1) * (betw lower' upper').length := by rw [Nat.add_mul, Nat.one_mul]
          _ ≤ _ := Nat.mul_le_mul_right _ ha
      rw [if_pos hlt, Nat.mul_comm, Nat.mul_add_div (by omega), Nat.mul_add_mod, Nat.div_eq_of_lt hb, Nat.mod_eq_of_lt hb]
      rfl
    have e1 : (sm (betw lower upper).length fun a => en (part1 lower upper A) i a * (if a * (betw lower' upper').length + j < (betw lower upper).length * (betw lower' upper').length then cr lower' (betw lower' upper') (ys ((a * (betw lower' upper').length + j) / (betw lower' upper').length)) ((a * (betw lower' upper').length + j) % (betw lower' upper').length) else 0)) = sm (betw lower upper).length fun a => cr lower (betw lower upper) (lin A (vc ((betw lower upper).getD i []))) a * cr lower' (betw lower' upper') (ys a) j := sm_congr fun a ha => by
      rw [ht a ha j hj, S.en_part hA hi]
    have e2 : (sm (betw lower' upper').length fun b => (if i * (betw lower' upper').length + b < (betw lower upper).length * (betw lower' upper').length then cr lower' (betw lower' upper') (ys ((i * (betw lower' upper').length + b) / (betw lower' upper').length)) ((i * (betw lower' upper').length + b) % (betw lower' upper').length) else 0) * en (part1 lower' upper' A) b j) = sm (betw lower' upper').length fun b => cr lower' (betw lower' upper') (ys i) b * en (part1 lower' upper' A) b j := sm_congr fun b hb => by
      rw [ht i hi b hb]
    rw [e1, e2, ← h1]
    unfold lin
    rw [S'.part_sq.1]
end
end Still

set_option linter.all false
set_option maxHeartbeats 1000000
namespace Still
open Lean.Grind (CommRing)
/-! spins, the law's own form, tightness -/
section
variable {F : Type} [CommRing F] [DecidableEq F] [Fd F]
variable {n : Nat} {tabs : List (List (List F))} {rows : List (List F)}
structure Spun (n : Nat) (tabs : List (List (List F))) (rows form : List (List F)) : Prop where
  lo : Lo n form
  inv : Md (ops tabs) (Spn form)
  has : ∀ r, r ∈ rows → Spn form (vc r)
  least : ∀ P : Pd F, Md (ops tabs) P → (∀ r, r ∈ rows → P (vc r)) → ∀ x, Spn form x → P x
/-- between two turns of a spin: w waits, of cur the first k tables are done -/
structure SpI (n : Nat) (tabs : List (List (List F))) (rows form w cur : List (List F)) (k : Nat) : Prop where
  lo : Lo n form
  has : ∀ r, r ∈ rows → Spn form (vc r)
  least : ∀ P : Pd F, Md (ops tabs) P → (∀ r, r ∈ rows → P (vc r)) → ∀ x, Spn form x → P x
  wl : ∀ x, x ∈ w ++ cur → x.length = n ∧ Spn form (vc x)
  dn : ∃ done, (∀ x, Spn form x → Spn (done ++ (cur ++ w)) x) ∧ ∀ d, d ∈ done → ∀ A, A ∈ tabs → Spn form (lin A (vc d))
  ck : ∀ c, c ∈ cur → ∀ i A, i < k → tabs[i]? = some A → Spn form (lin A (vc c))
theorem SpI.start (h : ∀ r, r ∈ rows → r.length = n) : SpI n tabs rows (lowM rows) (lowM rows) [] 0 := by
  have h1 := low_lo h
  refine ⟨h1, fun r hr => (low_sp h _).mpr (Spn.mem hr), fun P mP g x hx => ((low_sp h x).mp hx).le mP.sub g, fun x hx => ?_, ⟨[], fun x hx => hx, fun d hd => by simp at hd⟩, fun c hc => by simp at hc⟩
  rw [List.append_nil] at hx
  exact ⟨h1.row x hx, Spn.mem hx⟩
theorem SpI.pop {form w : List (List F)} {row : List F} (h : SpI n tabs rows form (w ++ [row]) [] 0) : SpI n tabs rows form w [row] 0 := by
  refine ⟨h.lo, h.has, h.least, fun x hx => h.wl x (by rw [List.append_nil]; exact hx), ?_, fun c _ i A hi => by omega⟩
  obtain ⟨done, h1, h2⟩ := h.dn
  refine ⟨done, fun x hx => (Spn.perm ?_).mp (h1 x hx), h2⟩
  apply List.Perm.append_left
  rw [List.nil_append]
  exact List.perm_append_comm
theorem SpI.keep {form w : List (List F)} {row : List F} {k : Nat} {A : List (List F)} (sq : ∀ A, A ∈ tabs → Sq n A) (pos : 0 < n) (h : SpI n tabs rows form w [row] k) (hA : tabs[k]? = some A) (hh : hasM form (ledM row A) = true) : SpI n tabs rows form w [row] (k + 1) := by
  have hm := List.mem_of_getElem? hA
  obtain ⟨l1, l2⟩ := h.wl row (by simp)
  have sA := sq A hm
  obtain ⟨e1, e2⟩ := led_ok (by rw [l1, sA.1]) sA.2 (fun z => by have := sA.1; rw [z] at this; simp at this; omega)
  refine ⟨h.lo, h.has, h.least, h.wl, h.dn, fun c hc i B hi hB => ?_⟩
  rw [List.mem_singleton] at hc
  subst hc
  by_cases e : i = k
  · subst e
    rw [hA] at hB
    cases hB
    have := (has_iff h.lo.toPre e1).mp hh
    rw [e2] at this
    exact this
  · exact h.ck c (by simp) i B (by omega) hB
theorem SpI.grow {form w : List (List F)} {row : List F} {k : Nat} {A : List (List F)} (sq : ∀ A, A ∈ tabs → Sq n A) (pos : 0 < n) (h : SpI n tabs rows form w [row] k) (hA : tabs[k]? = some A) : SpI n tabs rows (wrM form (ledM row A)) (w ++ [ledM row A]) [row] (k + 1) := by
  have hm := List.mem_of_getElem? hA
  obtain ⟨l1, l2⟩ := h.wl row (by simp)
  have sA := sq A hm
  obtain ⟨e1, e2⟩ := led_ok (by rw [l1, sA.1]) sA.2 (fun z => by have := sA.1; rw [z] at this; simp at this; omega)
  have up : ∀ x, Spn form x → Spn (wrM form (ledM row A)) x := fun x hx => (wr_sp h.lo e1 x).mpr (hx.mono fun r hr => Spn.mem (List.mem_append_left _ hr))
  have new : Spn (wrM form (ledM row A)) (vc (ledM row A)) := (wr_sp h.lo e1 _).mpr (Spn.mem (by simp))
  refine ⟨wr_lo h.lo e1, fun r hr => up _ (h.has r hr), fun P mP g x hx => ?_, fun x hx => ?_, ?_, fun c hc i B hi hB => ?_⟩
  · refine ((wr_sp h.lo e1 x).mp hx).le mP.sub fun r hr => ?_
    rcases List.mem_append.mp hr with hr | hr
    · exact h.least P mP g _ (Spn.mem hr)
    · rw [List.mem_singleton.mp hr, e2]
      exact mP.inv _ ⟨A, hm, rfl⟩ _ (h.least P mP g _ l2)
  · simp only [List.mem_append, List.mem_singleton] at hx
    rcases hx with (hx | hx) | hx
    · have := h.wl x (by simp [hx]); exact ⟨this.1, up _ this.2⟩
    · rw [hx]; exact ⟨e1, new⟩
    · rw [hx]; exact ⟨l1, up _ l2⟩
  · obtain ⟨done, h1, h2⟩ := h.dn
    refine ⟨done, fun x hx => ?_, fun d hd B hB => up _ (h2 d hd B hB)⟩
    refine ((wr_sp h.lo e1 x).mp hx).mono fun r hr => ?_
    rcases List.mem_append.mp hr with hr | hr
    · refine (h1 _ (Spn.mem hr)).mono fun s hs => Spn.mem ?_
      simp only [List.mem_append, List.mem_singleton] at hs ⊢
      rcases hs with hs | hs | hs
      · exact .inl hs
      · exact .inr (.inl hs)
      · exact .inr (.inr (.inl hs))
    · refine Spn.mem ?_
      simp only [List.mem_append, List.mem_singleton] at hr ⊢
      exact .inr (.inr (.inr hr))
  · rw [List.mem_singleton] at hc
    subst hc
    by_cases e : i = k
    · subst e
      rw [hA] at hB
      cases hB
      rw [e2] at new
      exact new
    · exact up _ (h.ck c (by simp) i B (by omega) hB)
theorem SpI.next {form w : List (List F)} {row : List F} (h : SpI n tabs rows form w [row] tabs.length) : SpI n tabs rows form w [] 0 := by
  refine ⟨h.lo, h.has, h.least, fun x hx => h.wl x (by rw [List.append_nil] at hx; simp [hx]), ?_, fun c hc => by simp at hc⟩
  obtain ⟨done, h1, h2⟩ := h.dn
  refine ⟨done ++ [row], fun x hx => ?_, fun d hd A hA => ?_⟩
  · have := h1 x hx
    rw [List.nil_append, List.append_assoc]
    exact this
  · rcases List.mem_append.mp hd with hd | hd
    · exact h2 d hd A hA
    · rw [List.mem_singleton.mp hd]
      obtain ⟨i, hi⟩ := List.getElem?_of_mem hA
      exact h.ck row (by simp) i A (List.getElem?_eq_some_iff.mp hi).1 hi
theorem SpI.end1 {form : List (List F)} (h : SpI n tabs rows form [] [] 0) : Spun n tabs rows form := by
  refine ⟨h.lo, ⟨Spn.sub _, ?_⟩, h.has, h.least⟩
  rintro f ⟨A, hA, rfl⟩ x hx
  obtain ⟨done, h1, h2⟩ := h.dn
  have := h1 x hx
  simp only [List.append_nil] at this
  refine this.le (P := fun x => Spn form (lin A x)) ⟨by rw [(lin_lin A).zero]; exact (Spn.sub _).zero, fun x y c hx hy => ?_⟩ fun r hr => h2 r hr A hA
  rw [(lin_lin A).tk]
  exact (Spn.sub _).tk _ _ c hx hy
theorem SpI.end2 {form w : List (List F)} (sq : ∀ A, A ∈ tabs → Sq n A) (h : SpI n tabs rows form w [] 0) (hl : n ≤ form.length) : Spun n tabs rows form := by
  refine ⟨h.lo, ⟨Spn.sub _, ?_⟩, h.has, h.least⟩
  rintro f ⟨A, hA, rfl⟩ x hx
  exact full_sp h.lo (Nat.le_antisymm (lo_len h.lo.toPre) hl) ((sq A hA).fu x)
theorem wr_low {form : List (List F)} {row : List F} (g : Lo n form) (hr : row.length = n) : lowM (form ++ [row]) = wrM form row := by
  refine low_eq (n := n) (wr_lo g hr) (fun r h => ?_) (wr_sp g hr)
  rcases List.mem_append.mp h with h | h
  · exact g.row r h
  · rw [List.mem_singleton.mp h]; exact hr
/-! the law's own form -/
structure LfI (n : Nat) (rows left found : List (List F)) (k : Nat) : Prop where
  lo : Lo n found
  below : ∀ r, r ∈ found → ld r < k
  ll : ∀ r, r ∈ left → r.length = n
  lz : ∀ r, r ∈ left → ∀ m, m < k → vc r m = 0
  sp : ∀ x, Spn (found ++ left) x ↔ Spn rows x
theorem LfI.start (h : ∀ r, r ∈ rows → r.length = n) : LfI n rows rows [] 0 := ⟨Lo.nil, fun r hr => by simp at hr, h, fun r _ m hm => by omega, fun x => by rw [List.nil_append]⟩
theorem LfI.skip {left found : List (List F)} {k : Nat} (h : LfI n rows left found k) (hz : ∀ r, r ∈ left → vc r k = 0) : LfI n rows left found (k + 1) :=
  ⟨h.lo, fun r hr => by have := h.below r hr; omega, h.ll, fun r hr m hm => by
    by_cases e : m = k
    · subst e; exact hz r hr
    · exact h.lz r hr m (by omega), h.sp⟩
theorem perm_erase {α : Type} : ∀ {l : List α} {i : Nat} {x : α}, l[i]? = some x → l.Perm (x :: l.eraseIdx i)
  | [], i, x, h => by simp at h
  | y :: t, 0, x, h => by
    simp at h
    subst h
    exact List.Perm.refl _
  | y :: t, i + 1, x, h => by
    have h : t[i]? = some x := by simpa using h
    exact ((perm_erase h).cons y).trans (List.Perm.swap x y _)
theorem LfI.step {left found : List (List F)} {k i : Nat} {row : List F} (h : LfI n rows left found k) (hi : left[i]? = some row) (hk : vc row k ≠ 0) :
    LfI n rows ((left.eraseIdx i).map fun o => tkM o (vc o k) (norM row k)) (fndM found (norM row k) k) (k + 1) := by
  have hm := List.mem_of_getElem? hi
  have hl := h.ll row hm
  have h3 := Fd.mul_inv _ hk
  have h4 : vc (norM row k) k = 1 := by unfold norM; rw [vc_sc]; grind
  have hz : ∀ m, m < k → vc (norM row k) m = 0 := fun m hm' => by unfold norM; rw [vc_sc, h.lz row hm m hm']; grind
  have yl : (norM row k).length = n := by unfold norM scM; rw [List.length_map]; exact hl
  have w : WrSt n found (norM row k) k := ⟨yl, lead_some.mpr ⟨by rw [h4]; exact Fd.ne, hz⟩, h4, fun s hs => hz _ (h.below s hs)⟩
  have hp := fnd_pre h.lo.toPre w
  have he : ∀ r, r ∈ left.eraseIdx i → r ∈ left := fun r hr => List.mem_of_mem_eraseIdx hr
  have hlf : ∀ o, o ∈ found → o.length = (norM row k).length := fun o ho => by rw [h.lo.row o ho, yl]
  have hll : ∀ o, o ∈ left → o.length = (norM row k).length := fun o ho => by rw [h.ll o ho, yl]
  have hmap : (fndM found (norM row k) k).map ld = found.map ld ++ [k] := by
    unfold fndM
    rw [List.map_append, List.map_map]
    congr 1
    · exact List.map_congr_left fun o ho => ld_of (fnd_ld h.lo.toPre w ho)
    · show [ld (norM row k)] = [k]; rw [ld_of w.lead]
  have hperm : left.Perm (row :: left.eraseIdx i) := by
    have hlt := (List.getElem?_eq_some_iff.mp hi).1
    have e : left[i] = row := (List.getElem?_eq_some_iff.mp hi).2
    exact perm_erase hi
  refine ⟨⟨hp, ?_⟩, fun r hr => ?_, fun r hr => ?_, fun r hr m hm' => ?_, fun x => ?_⟩
  · rw [hmap, List.pairwise_append]
    refine ⟨h.lo.up, by simp, fun a ha b hb => ?_⟩
    obtain ⟨o, ho, rfl⟩ := List.mem_map.mp ha
    rw [List.mem_singleton.mp hb]
    exact h.below o ho
  · have : ld r ∈ (fndM found (norM row k) k).map ld := List.mem_map_of_mem hr
    rw [hmap] at this
    rcases List.mem_append.mp this with q | q
    · obtain ⟨o, ho, e⟩ := List.mem_map.mp q
      rw [← e]
      have := h.below o ho
      omega
    · rw [List.mem_singleton.mp q]; omega
  · obtain ⟨o, ho, rfl⟩ := List.mem_map.mp hr
    rw [tk_len (hll o (he o ho))]
    exact h.ll o (he o ho)
  · obtain ⟨o, ho, rfl⟩ := List.mem_map.mp hr
    rw [vc_tk (hll o (he o ho))]
    by_cases e : m = k
    · subst e; rw [h4]; grind
    · rw [h.lz o (he o ho) m (by omega), hz m (by omega)]; grind
  · rw [← h.sp x]
    have hy : ∀ Z : List (List F), row ∈ Z → Spn Z (vc (norM row k)) := fun Z hZ => by
      have := (Spn.sub Z).smul (Fd.inv (vc row k)) (Spn.mem hZ)
      rw [show vc (norM row k) = fun i => Fd.inv (vc row k) * vc row i by funext i; unfold norM; rw [vc_sc]]
      exact this
    have tk1 : ∀ (Z : List (List F)) (o : List F), o.length = (norM row k).length → Spn Z (vc o) → Spn Z (vc (norM row k)) → Spn Z (vc (tkM o (vc o k) (norM row k))) := fun Z o hl h1 h2 => by
      have := (Spn.sub Z).tk _ _ (vc o k) h1 h2
      rw [show vc (tkM o (vc o k) (norM row k)) = fun i => vc o i - vc o k * vc (norM row k) i by funext i; rw [vc_tk hl]]
      exact this
    have tk2 : ∀ (Z : List (List F)) (o : List F), o.length = (norM row k).length → Spn Z (vc (tkM o (vc o k) (norM row k))) → Spn Z (vc (norM row k)) → Spn Z (vc o) := fun Z o hl h1 h2 => by
      have := (Spn.sub Z).tk _ _ (-(vc o k)) h1 h2
      rw [show (fun i => vc (tkM o (vc o k) (norM row k)) i - -(vc o k) * vc (norM row k) i) = vc o by funext i; rw [vc_tk hl]; grind] at this
      exact this
    constructor
    · refine Spn.mono fun r hr => ?_
      have hyz := hy (found ++ left) (List.mem_append_right _ hm)
      unfold fndM at hr
      simp only [List.mem_append, List.mem_map, List.mem_singleton] at hr
      rcases hr with (⟨o, ho, rfl⟩ | rfl) | ⟨o, ho, rfl⟩
      · exact tk1 _ o (hlf o ho) (Spn.mem (List.mem_append_left _ ho)) hyz
      · exact hyz
      · exact tk1 _ o (hll o (he o ho)) (Spn.mem (List.mem_append_right _ (he o ho))) hyz
    · have hyz : Spn (fndM found (norM row k) k ++ (left.eraseIdx i).map fun o => tkM o (vc o k) (norM row k)) (vc (norM row k)) := Spn.mem (List.mem_append_left _ (by unfold fndM; simp))
      refine Spn.mono fun r hr => ?_
      rcases List.mem_append.mp hr with hr | hr
      · exact tk2 _ r (hlf r hr) (Spn.mem (List.mem_append_left _ (by unfold fndM; exact List.mem_append_left _ (List.mem_map.mpr ⟨r, hr, rfl⟩)))) hyz
      · rcases List.mem_cons.mp (hperm.mem_iff.mp hr) with e | hr2
        · subst e
          have := (Spn.sub (fndM found (norM r k) k ++ (left.eraseIdx i).map fun o => tkM o (vc o k) (norM r k))).smul (vc r k) hyz
          rw [show (fun i => vc r k * vc (norM r k) i) = vc r by funext i; unfold norM; rw [vc_sc]; grind] at this
          exact this
        · exact tk2 _ r (hll r hr) (Spn.mem (List.mem_append_right _ (List.mem_map.mpr ⟨r, hr2, rfl⟩))) hyz
theorem LfI.fin {left found : List (List F)} {k : Nat} (hr : ∀ r, r ∈ rows → r.length = n) (h : LfI n rows left found k) (he : left = [] ∨ n ≤ k) : found = lowM rows := by
  refine (low_eq h.lo hr fun x => ?_).symm
  rw [← h.sp x]
  refine ⟨Spn.mono fun r hr => Spn.mem (List.mem_append_left _ hr), Spn.mono fun r hr => ?_⟩
  rcases List.mem_append.mp hr with hr | hr
  · exact Spn.mem hr
  · rcases he with e | e
    · subst e; simp at hr
    · rw [show vc r = fun _ => 0 from funext fun m => by
        by_cases hm : m < k
        · exact h.lz r hr m hm
        · exact vc_ge (by rw [h.ll r hr]; omega)]
      exact (Spn.sub _).zero
/-! tightness by spins -/
/-- rows enough to see it: one of each line, at least -/
structure FR (n : Nat) (R : List (List F)) : Prop where
  len : ∀ r, r ∈ R → r.length = n
  nz : ∀ r, r ∈ R → ∃ i, vc r i ≠ 0
  all : ∀ x : Vc F, Fu n x → (∃ i, x i ≠ 0) → ∃ r, r ∈ R ∧ ∃ c, vc r = fun i => c * x i
theorem tight_of {R : List (List F)} (fr : FR n R) (h : ∀ r, r ∈ R → ∃ form, Spun n tabs [r] form ∧ n ≤ form.length) : Tight n tabs := by
  rintro P mP hP ⟨x, hx, hz⟩ y hy
  obtain ⟨r, hr, c, e⟩ := fr.all x (hP x hx) hz
  obtain ⟨form, sp, hl⟩ := h r hr
  refine sp.least P mP (fun s hs => ?_) y (full_sp sp.lo (Nat.le_antisymm (lo_len sp.lo.toPre) hl) hy)
  rw [List.mem_singleton.mp hs, e]
  exact mP.sub.smul c hx
theorem spun_pos {r : List F} {form : List (List F)} (h : Spun n tabs [r] form) (hz : ∃ i, vc r i ≠ 0) : 0 < form.length := by
  apply Nat.pos_of_ne_zero
  intro e
  obtain ⟨i, hi⟩ := hz
  have := h.has r (by simp)
  rw [List.length_eq_zero_iff.mp e] at this
  exact hi (Spn.nil this i)
theorem tight_spun (t : Tight n tabs) {r : List F} {form : List (List F)} (hr : r.length = n) (h : Spun n tabs [r] form) (hz : ∃ i, vc r i ≠ 0) : form.length = n := by
  have := t _ h.inv (fun x hx => hx.fu h.lo.row) ⟨vc r, h.has r (by simp), hz⟩
  have e := lo_unique h.lo (plain_pre n) fun x => ⟨fun hx => plain_sp.mpr (hx.fu h.lo.row), fun hx => this x (plain_sp.mp hx)⟩
  rw [e, plain_len]
theorem Spun.unique {form form' : List (List F)} (h : Spun n tabs rows form) (k : Spun n tabs rows form') : form = form' :=
  lo_unique h.lo k.lo fun x => ⟨fun hx => h.least _ k.inv k.has x hx, fun hx => k.least _ h.inv h.has x hx⟩
/-- what still_span tells -/
def StSp (n : Nat) (tabs : List (List (List F))) : Option (List (List F)) → Prop
  | none => Tight n tabs
  | some f => Lo n f ∧ Md (ops tabs) (Spn f) ∧ 0 < f.length ∧ f.length < n
theorem stsp_none {o : Option (List (List F))} (h : StSp n tabs o) : o = none ↔ Tight n tabs := by
  cases o with
  | none => exact ⟨fun _ => h, fun _ => rfl⟩
  | some f =>
    refine ⟨fun z => (nomatch z), fun t => ?_⟩
    obtain ⟨h1, h2, h3, h4⟩ := h
    obtain ⟨r, hr⟩ : ∃ r, r ∈ f := by
      cases f with
      | nil => simp at h3
      | cons r f => exact ⟨r, by simp⟩
    have := t _ h2 (fun x hx => hx.fu h1.row) ⟨vc r, Spn.mem hr, ld r, by rw [h1.one r hr]; exact Fd.ne⟩
    have e := lo_unique h1 (plain_pre n) fun x => ⟨fun hx => plain_sp.mpr (hx.fu h1.row), fun hx => this x (plain_sp.mp hx)⟩
    rw [e, plain_len] at h4
    omega
end
end Still

set_option linter.all false
set_option maxHeartbeats 1000000
namespace Still
open Lean.Grind (CommRing)
/-! towers as lists of forms -/
section
variable {F : Type} [CommRing F] [DecidableEq F] [Fd F]
variable {n : Nat} {tabs : List (List (List F))} {lower upper : List (List F)}
abbrev Fm (F : Type) := List (List F)
def CF (n : Nat) (tabs : List (List (List F))) (T : Fm F) : Fm F → List (Fm F) → Prop
  | l, [] => l = T
  | l, f :: fs => Lo n f ∧ Simp (ops tabs) (Spn l) (Spn f) ∧ CF n tabs T f fs
def Tw (n : Nat) (tabs : List (List (List F))) (fs : List (Fm F)) : Prop := CF n tabs (plainM n) [] fs
def secF : Fm F → List (Fm F) → List (Fm F × Fm F)
  | _, [] => []
  | l, u :: r => (l, u) :: secF u r
theorem secF_zip : ∀ (fs : List (Fm F)) (l : Fm F), secF l fs = (l :: fs.dropLast).zip fs
  | [], l => by simp [secF]
  | [f], l => rfl
  | f :: g :: r, l => by
    show (l, f) :: secF f (g :: r) = (l, f) :: ((f :: (g :: r).dropLast).zip (g :: r))
    rw [secF_zip (g :: r) f]
theorem CF.append {T m : Fm F} : ∀ {a : List (Fm F)} {l : Fm F} {b : List (Fm F)}, CF n tabs m l a → CF n tabs T m b → CF n tabs T l (a ++ b)
  | [], l, b, h, k => by
    have h : l = m := h
    rw [h]; exact k
  | f :: a, l, b, ⟨h1, h2, h3⟩, k => ⟨h1, h2, h3.append k⟩
def Pr (p : Fm F × Fm F) : Pd F × Pd F := (Spn p.1, Spn p.2)
theorem CF.chain {T : Fm F} : ∀ {fs : List (Fm F)} {l : Fm F}, CF n tabs T l fs → Chain (ops tabs) (Spn T) (Spn l) (fs.map Spn) ∧ secs (Spn l) (fs.map Spn) = (secF l fs).map Pr
  | [], l, h => ⟨by have h : l = T := h; rw [h]; rfl, rfl⟩
  | f :: fs, l, ⟨h1, h2, h3⟩ => by
    obtain ⟨k1, k2⟩ := h3.chain
    exact ⟨⟨h2, k1⟩, by show (Spn l, Spn f) :: secs (Spn f) (fs.map Spn) = _; rw [k2]; rfl⟩
structure SecS (n : Nat) (tabs : List (List (List F))) (p : Fm F × Fm F) : Prop extends Sec n tabs p.1 p.2 where
  simp : Simp (ops tabs) (Spn p.1) (Spn p.2)
theorem CF.sec {T : Fm F} (pos : 0 < n) (sq : ∀ A, A ∈ tabs → Sq n A) : ∀ {fs : List (Fm F)} {l : Fm F}, Lo n l → CF n tabs T l fs → ∀ p, p ∈ secF l fs → SecS n tabs p
  | [], l, _, _, p, hp => by simp [secF] at hp
  | f :: fs, l, hl, ⟨h1, h2, h3⟩, p, hp => by
    rcases List.mem_cons.mp hp with rfl | hp
    · exact ⟨⟨pos, sq, hl, h1, h2.le, h2.lo, h2.hi⟩, h2⟩
    · exact h3.sec pos sq h1 p hp
theorem SecS.ne {p : Fm F × Fm F} (h : SecS n tabs p) : ∃ x, Spn p.2 x ∧ ¬ Spn p.1 x := h.simp.ne
theorem SecS.tight {p : Fm F × Fm F} (h : SecS n tabs p) : Tight (betw p.1 p.2).length (partM p.1 p.2 tabs) := h.toSec.tight h.simp
theorem SecS.lt {p : Fm F × Fm F} (h : SecS n tabs p) : p.1.length < p.2.length := by
  apply Nat.lt_of_not_le
  intro q
  have e := lo_eq_len h.l h.u h.le q
  obtain ⟨x, h1, h2⟩ := h.ne
  rw [← e] at h1
  exact h2 h1
def Al (tabs : List (List (List F))) (p q : Fm F × Fm F) : Prop := Iso (ops tabs) (Pr p) (Pr q)
theorem SecS.al {p q : Fm F × Fm F} (h : SecS n tabs p) (k : SecS n tabs q) : Al tabs p q ↔ (betw p.1 p.2).length = (betw q.1 q.2).length ∧ ∃ t : Vc F, Fu ((betw p.1 p.2).length * (betw q.1 q.2).length) t ∧ (∃ i, t i ≠ 0) ∧ ∀ A, A ∈ tabs → Goes (betw p.1 p.2).length (betw q.1 q.2).length (part1 p.1 p.2 A) (part1 q.1 q.2 A) t := by
  constructor
  · intro i
    obtain ⟨h1, h2⟩ := goes_of_iso h.toSec k.toSec h.ne i
    obtain ⟨h3, _⟩ := goes_of_iso k.toSec h.toSec k.ne i.symm
    exact ⟨Nat.le_antisymm h1 h3, h2⟩
  · rintro ⟨_, t, h1, h2, h3⟩
    exact iso_of_goes h.toSec k.toSec h.simp k.simp h1 h2 h3
theorem Iso.refl' {O : (Vc F → Vc F) → Prop} {L U : Pd F} (hO : ∀ A, O A → Lin A) (h : Simp O L U) : Iso O (L, U) (L, U) := by
  refine ⟨fun x y => U x ∧ U y ∧ L fun i => x i - y i, ⟨⟨h.hi.sub.zero, h.hi.sub.zero, ?_⟩, ?_, ?_, fun x y q => q.1, fun x y q => q.2.1, fun x hx => ⟨x, hx, hx, ?_⟩, fun x hx => ⟨x, hx, hx, ?_⟩, ?_⟩⟩
  · rw [show (fun i : Nat => (0 : F) - 0) = fun _ => 0 by funext i; grind]; exact h.lo.sub.zero
  · rintro x x' y y' c ⟨h1, h2, h3⟩ ⟨h4, h5, h6⟩
    refine ⟨h.hi.sub.tk _ _ c h1 h4, h.hi.sub.tk _ _ c h2 h5, ?_⟩
    have := h.lo.sub.tk _ _ c h3 h6
    rw [show (fun i => x i - c * y i - (x' i - c * y' i)) = fun i => x i - x' i - c * (y i - y' i) by funext i; grind]
    exact this
  · rintro A hA x y ⟨h1, h2, h3⟩
    refine ⟨h.hi.inv A hA x h1, h.hi.inv A hA y h2, ?_⟩
    have := h.lo.inv A hA _ h3
    rw [show (fun i => x i - y i) = fun i => x i - 1 * y i by funext i; grind, (hO A hA).tk] at this
    rw [show (fun i => A x i - A y i) = fun i => A x i - 1 * A y i by funext i; grind]
    exact this
  · rw [show (fun i => x i - x i) = fun _ => 0 by funext i; grind]; exact h.lo.sub.zero
  · rw [show (fun i => x i - x i) = fun _ => 0 by funext i; grind]; exact h.lo.sub.zero
  · rintro x y ⟨h1, h2, h3⟩
    constructor
    · intro hx
      have := h.lo.sub.sub hx h3
      rw [show (fun i => x i - (x i - y i)) = y by funext i; grind] at this
      exact this
    · intro hy
      have := h.lo.sub.add h3 hy
      rw [show (fun i => x i - y i + y i) = x by funext i; grind] at this
      exact this
theorem SecS.refl {p : Fm F × Fm F} (h : SecS n tabs p) : Al tabs p p := Iso.refl' ops_lin h.simp
/-! counting by likeness, plainly -/
section
variable {α : Type} {R : α → α → Prop}
open Classical in
noncomputable def cl (R : α → α → Prop) (z : α) (l : List α) : Nat := l.countP fun s => decide (R z s)
open Classical in
theorem cl_cons (z s : α) (l : List α) : cl R z (s :: l) = cl R z l + if R z s then 1 else 0 := by
  unfold cl
  rw [List.countP_cons]
  by_cases h : R z s <;> simp [h]
theorem cl_perm {z : α} {a b : List α} (h : a.Perm b) : cl R z a = cl R z b := h.countP_eq _
theorem cl_pick {h : α} {hs ys : List α} (r : R h h) (e : ∀ z, cl R z (h :: hs) = cl R z ys) : ∃ (i : Nat) (y : α), ys[i]? = some y ∧ R h y := by
  have h1 := e h
  rw [cl_cons, if_pos r] at h1
  have h2 : 0 < cl R h ys := by omega
  unfold cl at h2
  rw [List.countP_pos_iff] at h2
  obtain ⟨y, hy, hr⟩ := h2
  obtain ⟨i, hi⟩ := List.getElem?_of_mem hy
  exact ⟨i, y, hi, by simpa using hr⟩
open Classical in
theorem cl_step (sy : ∀ a b, R a b → R b a) (tr : ∀ a b c, R a b → R b c → R a c) {h y : α} {hs ys ys' : List α} (p : ys.Perm (y :: ys')) (r : R h y) (e : ∀ z, cl R z (h :: hs) = cl R z ys) (z : α) : cl R z hs = cl R z ys' := by
  have h1 := e z
  rw [cl_perm p, cl_cons, cl_cons] at h1
  have h2 : (if R z h then 1 else 0) = if R z y then 1 else 0 := by
    by_cases q : R z h
    · rw [if_pos q, if_pos (tr _ _ _ q r)]
    · rw [if_neg q, if_neg fun k => q (tr _ _ _ k (sy _ _ r))]
  omega
theorem cl_map {β : Type} (sy : ∀ a b, R a b → R b a) (tr : ∀ a b c, R a b → R b c → R a c) (f : α → β) : ∀ {hs ys : List α}, (∀ h, h ∈ hs → R h h) → (∀ y, y ∈ ys → R y y) → (∀ h, h ∈ hs → ∀ y, y ∈ ys → R h y → f h = f y) → (∀ z, cl R z hs = cl R z ys) → (hs.map f).Perm (ys.map f)
  | [], [], _, _, _, _ => List.Perm.refl _
  | [], y :: ys, _, r2, _, e => by
    have := e y
    rw [cl_cons, if_pos (r2 y (by simp))] at this
    simp [cl] at this
  | h :: hs, ys, r1, r2, hf, e => by
    obtain ⟨i, y, hi, hr⟩ := cl_pick (r1 h (by simp)) e
    have hp := perm_erase hi
    have ih := cl_map sy tr f (hs := hs) (ys := ys.eraseIdx i) (fun a ha => r1 a (by simp [ha])) (fun y hy => r2 y (hp.mem_iff.mpr (by simp [hy]))) (fun a ha y hy => hf a (by simp [ha]) y (hp.mem_iff.mpr (by simp [hy]))) (cl_step sy tr hp hr e)
    have hy : y ∈ ys := List.mem_of_getElem? hi
    have := (ih.cons (f h)).trans (List.Perm.of_eq (show f h :: (ys.eraseIdx i).map f = (y :: ys.eraseIdx i).map f by rw [List.map_cons, hf h (by simp) y hy hr]))
    exact this.trans (hp.map f).symm
end
theorem Al.symm {p q : Fm F × Fm F} (h : Al tabs p q) : Al tabs q p := Iso.symm h
theorem Al.trans {p q r : Fm F × Fm F} (h : Al tabs p q) (k : Al tabs q r) : Al tabs p r := Iso.trans h k
open Classical in
theorem tw_count {as bs : List (Fm F)} (ha : Tw n tabs as) (hb : Tw n tabs bs) (z : Fm F × Fm F) : cl (Al tabs) z (secF [] as) = cl (Al tabs) z (secF [] bs) := by
  obtain ⟨h1, h2⟩ := CF.chain ha
  obtain ⟨k1, k2⟩ := CF.chain hb
  have := jordan ops_lin _ _ _ h1 k1 (Pr z)
  rw [h2, k2] at this
  unfold cnt at this
  rw [List.countP_map, List.countP_map] at this
  exact this
/-! sizes -/
def szI : Int → List (Fm F) → List Int
  | _, [] => []
  | l, f :: fs => ((f.length : Int) - l) :: szI f.length fs
theorem szI_sec : ∀ (fs : List (Fm F)) (l : Fm F), szI l.length fs = (secF l fs).map fun p => (p.2.length : Int) - p.1.length
  | [], _ => rfl
  | f :: fs, l => by show _ :: szI f.length fs = _ :: (secF f fs).map _; rw [szI_sec fs f]
theorem tw_sizes (pos : 0 < n) (sq : ∀ A, A ∈ tabs → Sq n A) {as bs : List (Fm F)} (ha : Tw n tabs as) (hb : Tw n tabs bs) : (szI 0 as).Perm (szI 0 bs) := by
  have e1 := szI_sec as ([] : Fm F)
  have e2 := szI_sec bs ([] : Fm F)
  have sa := CF.sec pos sq Lo.nil ha
  have sb := CF.sec pos sq Lo.nil hb
  have e0 : ((([] : Fm F).length : Nat) : Int) = 0 := rfl
  rw [e0] at e1 e2
  rw [e1, e2]
  refine cl_map (R := Al tabs) (fun _ _ => Al.symm) (fun _ _ _ => Al.trans) _ (fun p hp => (sa p hp).refl) (fun p hp => (sb p hp).refl) (fun p hp q hq h => ?_) (tw_count ha hb)
  have h1 := ((sa p hp).al (sb q hq)).mp h
  have h2 := (sa p hp).toSec.size
  have h3 := (sb q hq).toSec.size
  omega
/-! what lies across -/
def lainM (n : Nat) (fs : List (Fm F)) : List (Fm F) := fs.dropLast.reverse.map (acrM n) ++ [plainM n]
theorem acr_plain {n : Nat} : acrM (F := F) n (plainM n) = [] := by
  have h := acr_len (plain_pre (F := F) n).toPre
  rw [plain_len] at h
  exact List.length_eq_zero_iff.mp (by omega)
theorem acr_nil {n : Nat} : acrM (F := F) n [] = plainM n := by
  have h := acr_len (Lo.nil (F := F) (n := n)).toPre
  exact full_eq (acr_lo Lo.nil.toPre) (by simpa using h)
theorem acr_pd {form : Fm F} (g : Pre n form) : Spn (acrM n form) = Ann n (Spn form) := pd_ext fun y => acr_sp g y
theorem map_tr {n : Nat} (sq : ∀ A, A ∈ tabs → Sq n A) : (tabs.map (trM n)).map (trM n) = tabs := by
  rw [List.map_map]
  conv => rhs; rw [← List.map_id tabs]
  exact List.map_congr_left fun A hA => tr_tr (sq A hA)
theorem sq_tr (sq : ∀ A, A ∈ tabs → Sq n A) : ∀ A, A ∈ tabs.map (trM n) → Sq n A := fun B hB => by
  obtain ⟨A, hA, rfl⟩ := List.mem_map.mp hB
  exact tr_sq (sq A hA).1
theorem simp_dual (sq : ∀ A, A ∈ tabs → Sq n A) {a b : Fm F} (ha : Lo n a) (hb : Lo n b) (h : Simp (ops tabs) (Spn a) (Spn b)) : Simp (ops (tabs.map (trM n))) (Spn (acrM n b)) (Spn (acrM n a)) := by
  rw [acr_pd ha.toPre, acr_pd hb.toPre]
  have fb : ∀ x, Spn b x → Fu n x := fun x hx => hx.fu hb.row
  have back : ∀ x, Spn a x → Ann n (Ann n (Spn a)) x := fun x hx => ⟨hx.fu ha.row, fun y hy => by rw [dot_comm]; exact hy.2 x hx⟩
  have backb : ∀ x, Spn b x → Ann n (Ann n (Spn b)) x := fun x hx => ⟨hx.fu hb.row, fun y hy => by rw [dot_comm]; exact hy.2 x hx⟩
  refine ⟨Ann.md sq h.hi, Ann.md sq h.lo, fun x hx => Ann.anti h.le hx, ?_, ?_⟩
  · apply Classical.byContradiction
    intro hn
    obtain ⟨x, h1, h2⟩ := h.ne
    refine h2 (ann_ann ha.toPre (Ann.anti (fun y hy => ?_) (backb x h1)))
    exact Classical.byContradiction fun q => hn ⟨y, hy, q⟩
  · rintro W mW lW Wu ⟨w, hw, hn⟩ y hy
    obtain ⟨f, hf, e⟩ := form_of mW.sub fun x hx => (Wu x hx).1
    have eW : Spn f = W := pd_ext e
    have mZ : Md (ops tabs) (Ann n W) := by
      have := Ann.md (sq_tr sq) mW
      rw [map_tr sq] at this
      exact this
    by_cases hc : ∃ x, Ann n W x ∧ ¬ Spn a x
    · have all := h.no _ mZ (fun x hx => Ann.anti Wu (back x hx)) (fun x hx => ann_ann hb.toPre (Ann.anti lW hx)) hc
      exact absurd ⟨(Wu w hw).1, fun x hx => by rw [dot_comm]; exact (all x hx).2 w hw⟩ hn
    · have : Ann n (Ann n W) y := Ann.anti (fun x hx => Classical.byContradiction fun q => hc ⟨x, hx, q⟩) hy
      rw [← eW] at this ⊢
      exact ann_ann hf.toPre this
theorem dual_fold (sq : ∀ A, A ∈ tabs → Sq n A) : ∀ (fs : List (Fm F)) (l : Fm F) (rest : List (Fm F)), Lo n l → CF n tabs (plainM n) l fs → CF n (tabs.map (trM n)) (plainM n) (acrM n l) rest →
    CF n (tabs.map (trM n)) (plainM n) [] ((l :: fs).dropLast.reverse.map (acrM n) ++ rest) ∧ secF [] ((l :: fs).dropLast.reverse.map (acrM n) ++ rest) = ((secF l fs).reverse.map fun p => (acrM n p.2, acrM n p.1)) ++ secF (acrM n l) rest
  | [], l, rest, hl, h, k => by
    have h : l = plainM n := h
    subst h
    rw [acr_plain] at k ⊢
    exact ⟨k, rfl⟩
  | f :: fs, l, rest, hl, ⟨h1, h2, h3⟩, k => by
    obtain ⟨i1, i2⟩ := dual_fold sq fs f (acrM n l :: rest) h1 h3 ⟨acr_lo hl.toPre, simp_dual sq hl h1 h2, k⟩
    have e : (l :: f :: fs).dropLast.reverse.map (acrM n) ++ rest = (f :: fs).dropLast.reverse.map (acrM n) ++ (acrM n l :: rest) := by
      show (l :: (f :: fs).dropLast).reverse.map (acrM n) ++ rest = _
      rw [List.reverse_cons, List.map_append, List.append_assoc]; rfl
    rw [e]
    refine ⟨i1, ?_⟩
    rw [i2]
    show _ = (((l, f) :: secF f fs).reverse.map _) ++ _
    rw [List.reverse_cons, List.map_append, List.append_assoc]
    rfl
theorem tw_ne (pos : 0 < n) {fs : List (Fm F)} (h : Tw n tabs fs) : fs ≠ [] := by
  intro e
  subst e
  have h : ([] : Fm F) = plainM n := h
  have := congrArg List.length h
  rw [plain_len] at this
  simp at this
  omega
theorem tw_dual (pos : 0 < n) (sq : ∀ A, A ∈ tabs → Sq n A) {fs : List (Fm F)} (h : Tw n tabs fs) : Tw n (tabs.map (trM n)) (lainM n fs) ∧ szI 0 (lainM n fs) = (szI 0 fs).reverse := by
  obtain ⟨h1, h2⟩ := dual_fold sq fs [] [] Lo.nil h (by rw [acr_nil]; rfl)
  have e : ([] :: fs).dropLast.reverse.map (acrM n) ++ [] = lainM n fs := by
    have hne := tw_ne pos h
    cases fs with
    | nil => exact absurd rfl hne
    | cons f fs =>
      show ([] :: (f :: fs).dropLast).reverse.map (acrM n) ++ [] = _
      unfold lainM
      rw [List.reverse_cons, List.map_append, List.append_nil]
      show _ ++ [acrM n []] = _
      rw [acr_nil]
  rw [e] at h1 h2
  refine ⟨h1, ?_⟩
  have e1 := szI_sec (lainM n fs) ([] : Fm F)
  have e2 := szI_sec fs ([] : Fm F)
  have e0 : ((([] : Fm F).length : Nat) : Int) = 0 := rfl
  rw [e0] at e1 e2
  rw [e1, e2, h2]
  show List.map _ (_ ++ []) = _
  rw [List.append_nil, List.map_map, ← List.map_reverse]
  apply List.map_congr_left
  intro p hp
  have hs := CF.sec pos sq Lo.nil h p (List.mem_reverse.mp hp)
  have l1 := acr_len hs.l.toPre
  have l2 := acr_len hs.u.toPre
  show ((acrM n p.1).length : Int) - (acrM n p.2).length = _
  omega
theorem lain_len (fs : List (Fm F)) (h : fs ≠ []) : (lainM n fs).length = fs.length := by
  unfold lainM
  have := List.length_pos_iff.mpr h
  simp
  omega
/-! between -/
def midM (lower upper found : Fm F) : Fm F := lowM (lower ++ found.map fun s => ledM s (betw lower upper))
theorem mid_ok (S : Sec n tabs lower upper) {f : Fm F} (h : StSp (betw lower upper).length (partM lower upper tabs) (some f)) :
    Sec n tabs lower (midM lower upper f) ∧ Sec n tabs (midM lower upper f) upper ∧ (∃ x, Spn (midM lower upper f) x ∧ ¬ Spn lower x) ∧ ∃ x, Spn upper x ∧ ¬ Spn (midM lower upper f) x := by
  obtain ⟨hf, mf, p1, p2⟩ := h
  have hB : betw lower upper ≠ [] := fun z => by rw [z] at p2; simp at p2
  have hl : ∀ s, s ∈ f → (ledM s (betw lower upper)).length = n ∧ vc (ledM s (betw lower upper)) = lin (betw lower upper) (vc s) := fun s hs => led_ok (hf.row s hs) (fun r hr => S.blen hr) hB
  have hrows : ∀ r, r ∈ lower ++ f.map (fun s => ledM s (betw lower upper)) → r.length = n := fun r hr => by
    rcases List.mem_append.mp hr with hr | hr
    · exact S.l.row r hr
    · obtain ⟨s, hs, rfl⟩ := List.mem_map.mp hr
      exact (hl s hs).1
  have lo : Lo n (midM lower upper f) := low_lo hrows
  have sW : Sub fun x => Spn upper x ∧ Spn f (cr lower (betw lower upper) x) := ⟨⟨(Spn.sub _).zero, by rw [(cr_lin _ _).zero]; exact (Spn.sub _).zero⟩, fun x y c hx hy => ⟨(Spn.sub _).tk _ _ c hx.1 hy.1, by rw [(cr_lin _ _).tk]; exact (Spn.sub _).tk _ _ c hx.2 hy.2⟩⟩
  have hsp : ∀ x, Spn (midM lower upper f) x ↔ Spn upper x ∧ Spn f (cr lower (betw lower upper) x) := by
    intro x
    unfold midM
    rw [low_sp hrows]
    constructor
    · intro hx
      refine hx.le sW fun r hr => ?_
      rcases List.mem_append.mp hr with hr | hr
      · exact ⟨S.le _ (Spn.mem hr), by rw [S.cr_lower (Spn.mem hr)]; exact (Spn.sub _).zero⟩
      · obtain ⟨s, hs, rfl⟩ := List.mem_map.mp hr
        rw [(hl s hs).2]
        exact ⟨S.lin_u _, by rw [S.coef (Fu.of (hf.row s hs))]; exact Spn.mem hs⟩
    · rintro ⟨h1, h2⟩
      have h3 : Spn (lower ++ f.map fun s => ledM s (betw lower upper)) (lin (betw lower upper) (cr lower (betw lower upper) x)) := by
        refine h2.le (P := fun c => Spn (lower ++ f.map fun s => ledM s (betw lower upper)) (lin (betw lower upper) c)) ⟨by rw [(lin_lin _).zero]; exact (Spn.sub _).zero, fun x y c hx hy => by rw [(lin_lin _).tk]; exact (Spn.sub _).tk _ _ c hx hy⟩ fun s hs => ?_
        rw [← (hl s hs).2]
        exact Spn.mem (List.mem_append_right _ (List.mem_map.mpr ⟨s, hs, rfl⟩))
      have h4 : Spn (lower ++ f.map fun s => ledM s (betw lower upper)) (fun k => x k - lin (betw lower upper) (cr lower (betw lower upper) x) k) := (S.dec h1).mono fun r hr => Spn.mem (List.mem_append_left _ hr)
      have := (Spn.sub _).add h4 h3
      rw [show (fun i => x i - lin (betw lower upper) (cr lower (betw lower upper) x) i + lin (betw lower upper) (cr lower (betw lower upper) x) i) = x by funext i; grind] at this
      exact this
  have mW : Md (ops tabs) (Spn (midM lower upper f)) := by
    refine ⟨Spn.sub _, ?_⟩
    rintro g ⟨A, hA, rfl⟩ x hx
    obtain ⟨h1, h2⟩ := (hsp x).mp hx
    refine (hsp _).mpr ⟨S.mu.inv _ ⟨A, hA, rfl⟩ x h1, ?_⟩
    rw [S.act hA h1]
    exact mf.inv _ ⟨_, List.mem_map_of_mem hA, rfl⟩ _ h2
  refine ⟨⟨S.pos, S.sq, S.l, lo, fun x hx => (hsp x).mpr ⟨S.le x hx, by rw [S.cr_lower hx]; exact (Spn.sub _).zero⟩, S.ml, mW⟩, ⟨S.pos, S.sq, lo, S.u, fun x hx => ((hsp x).mp hx).1, mW, S.mu⟩, ?_, ?_⟩
  · obtain ⟨r, hr⟩ : ∃ r, r ∈ f := by
      cases f with
      | nil => simp at p1
      | cons r f => exact ⟨r, by simp⟩
    have hc := S.coef (Fu.of (hf.row r hr))
    refine ⟨lin (betw lower upper) (vc r), (hsp _).mpr ⟨S.lin_u _, by rw [hc]; exact Spn.mem hr⟩, fun z => ?_⟩
    have := S.cr_lower z
    rw [hc] at this
    have h2 := hf.one r hr
    rw [this] at h2
    exact Fd.ne h2.symm
  · apply Classical.byContradiction
    intro hn
    have : ∀ c, Fu (betw lower upper).length c → Spn f c := fun c hc => by
      have h1 : Spn (midM lower upper f) (lin (betw lower upper) c) := Classical.byContradiction fun q => hn ⟨_, S.lin_u c, q⟩
      have := ((hsp _).mp h1).2
      rw [S.coef hc] at this
      exact this
    have e := lo_unique hf (plain_pre _) fun x => ⟨fun hx => plain_sp.mpr (hx.fu hf.row), fun hx => this x (plain_sp.mp hx)⟩
    rw [e, plain_len] at p2
    omega
theorem sec_lt (S : Sec n tabs lower upper) (h : ∃ x, Spn upper x ∧ ¬ Spn lower x) : lower.length < upper.length := by
  apply Nat.lt_of_not_le
  intro q
  have e := lo_eq_len S.l S.u S.le q
  obtain ⟨x, h1, h2⟩ := h
  rw [← e] at h1
  exact h2 h1
theorem sec_top (pos : 0 < n) (sq : ∀ A, A ∈ tabs → Sq n A) : Sec n tabs [] (plainM n) ∧ ∃ x, Spn (plainM (F := F) n) x ∧ ¬ Spn [] x := by
  refine ⟨⟨pos, sq, Lo.nil, plain_pre n, fun x hx => ?_, ⟨Spn.sub _, ?_⟩, ⟨Spn.sub _, ?_⟩⟩, vc (uM n 0), Spn.mem (List.mem_map.mpr ⟨0, List.mem_range.mpr pos, rfl⟩), fun z => ?_⟩
  · rw [show x = fun _ => 0 from funext (Spn.nil hx)]; exact (Spn.sub _).zero
  · rintro f ⟨A, hA, rfl⟩ x hx
    rw [show x = fun _ => 0 from funext (Spn.nil hx), (lin_lin A).zero]; exact (Spn.sub _).zero
  · rintro f ⟨A, hA, rfl⟩ x hx
    exact plain_sp.mpr ((sq A hA).fu x)
  · have := Spn.nil z 0
    rw [vc_u pos, if_pos rfl] at this
    exact Fd.ne this
end
end Still

set_option linter.all false
set_option maxHeartbeats 1000000
namespace Still
/-! rows by the figures of numbers; all lines -/
section
variable {q : Pm}
def digs (q : Pm) : Nat → Nat → List (Fq q)
  | 0, _ => []
  | n + 1, k => el q (k : Int) :: digs q n (k / q.n)
theorem digs_len : ∀ (n k : Nat), (digs q n k).length = n
  | 0, _ => rfl
  | n + 1, k => by show (digs q n (k / q.n)).length + 1 = n + 1; rw [digs_len n]
theorem digs_snoc : ∀ (n k : Nat), digs q (n + 1) k = digs q n k ++ [el q ((k / q.n ^ n : Nat) : Int)]
  | 0, k => by show [el q (k : Int)] = [el q ((k / q.n ^ 0 : Nat) : Int)]; rw [Nat.pow_zero, Nat.div_one]
  | n + 1, k => by
    show el q (k : Int) :: digs q (n + 1) (k / q.n) = el q (k : Int) :: (digs q n (k / q.n) ++ _)
    rw [digs_snoc n, Nat.div_div_eq_div_mul, Nat.pow_succ, Nat.mul_comm (q.n ^ n)]
def numOf : List (Fq q) → Nat
  | [] => 0
  | a :: t => a.val + q.n * numOf t
theorem numOf_lt : ∀ l : List (Fq q), numOf l < q.n ^ l.length
  | [] => by show 0 < q.n ^ 0; simp
  | a :: t => by
    have h := numOf_lt t
    have ha := a.isLt
    show a.val + q.n * numOf t < q.n ^ (t.length + 1)
    rw [Nat.pow_succ, Nat.mul_comm (q.n ^ t.length)]
    calc a.val + q.n * numOf t < q.n + q.n * numOf t := by omega
      _ = q.n * (numOf t + 1) := by rw [Nat.mul_add, Nat.mul_one, Nat.add_comm]
      _ ≤ q.n * q.n ^ t.length := Nat.mul_le_mul_left _ h
theorem el_val (a : Fq q) (m : Nat) : el q ((a.val + q.n * m : Nat) : Int) = a := vl_inj (by
  rw [vl_el]
  unfold vl
  have ha := a.isLt
  rw [← Int.natCast_emod, Nat.add_mul_mod_self_left, Nat.mod_eq_of_lt ha])
theorem digs_numOf : ∀ l : List (Fq q), digs q l.length (numOf l) = l
  | [] => rfl
  | a :: t => by
    show el q ((a.val + q.n * numOf t : Nat) : Int) :: digs q t.length ((a.val + q.n * numOf t) / q.n) = a :: t
    have ha := a.isLt
    have hq := q.pos
    rw [el_val, Nat.add_mul_div_left _ _ (by omega), Nat.div_eq_of_lt ha, Nat.zero_add, digs_numOf t]
theorem numOf_digs : ∀ (n k : Nat), k < q.n ^ n → numOf (digs q n k) = k
  | 0, k, h => by show 0 = k; simp at h; omega
  | n + 1, k, h => by
    have hq := q.pos
    have h2 : k / q.n < q.n ^ n := Nat.div_lt_of_lt_mul (by rw [Nat.pow_succ, Nat.mul_comm] at h; exact h)
    show (el q (k : Int)).val + q.n * numOf (digs q n (k / q.n)) = k
    rw [numOf_digs n _ h2]
    have e : (el q (k : Int)).val = k % q.n := by
      have := vl_el q (k : Int)
      unfold vl at this
      omega
    rw [e]
    exact Nat.mod_add_div k q.n
theorem numOf_zero : ∀ l : List (Fq q), (∀ a, a ∈ l → a = 0) → numOf l = 0
  | [], _ => rfl
  | a :: t, h => by
    show a.val + q.n * numOf t = 0
    rw [numOf_zero t fun b hb => h b (by simp [hb]), h a (by simp)]
    cases q <;> rfl
def rowN (q : Pm) (n k : Nat) : List (Fq q) := (digs q n k).reverse
theorem rowN_len (n k : Nat) : (rowN q n k).length = n := by unfold rowN; rw [List.length_reverse, digs_len]
theorem rowN_nz {n k : Nat} (h : k < q.n ^ n) (h1 : 1 ≤ k) : ∃ a, a ∈ rowN q n k ∧ a ≠ 0 := by
  apply Classical.byContradiction
  intro hn
  have := numOf_digs n k h
  rw [numOf_zero _ fun a ha => Classical.byContradiction fun z => hn ⟨a, by unfold rowN; simpa using ha, z⟩] at this
  omega
theorem rowN_all {n : Nat} {r : List (Fq q)} (hr : r.length = n) : ∃ k, k < q.n ^ n ∧ rowN q n k = r := by
  refine ⟨numOf r.reverse, ?_, ?_⟩
  · have := numOf_lt r.reverse
    rw [List.length_reverse, hr] at this
    exact this
  · unfold rowN
    have := digs_numOf r.reverse
    rw [List.length_reverse, hr] at this
    rw [this, List.reverse_reverse]
theorem filt_head : ∀ {r : List (Fq q)} {a : Nat}, leadM r = some a → (r.filter fun x => decide (x ≠ 0))[0]? = some (vc r a)
  | [], a, h => by simp [leadM] at h
  | x :: t, a, h => by
    obtain ⟨h1, h2⟩ := lead_some.mp h
    by_cases hx : x = 0
    · cases a with
      | zero => exact absurd (show vc (x :: t) 0 = 0 from hx) h1
      | succ a =>
        have : leadM t = some a := lead_some.mpr ⟨h1, fun m hm => h2 (m + 1) (by omega)⟩
        rw [List.filter_cons_of_neg (by simp [hx]), filt_head this]
        rfl
    · rw [List.filter_cons_of_pos (by simp [hx])]
      cases a with
      | zero => rfl
      | succ a => exact absurd (h2 0 (by omega)) hx
theorem mem_nz {r : List (Fq q)} (h : ∃ a, a ∈ r ∧ a ≠ 0) : ∃ i, vc r i ≠ 0 := by
  obtain ⟨a, h1, h2⟩ := h
  obtain ⟨i, hi⟩ := List.getElem?_of_mem h1
  exact ⟨i, by rw [vc_lt hi]; exact h2⟩
theorem nz_lead {r : List (Fq q)} (h : ∃ i, vc r i ≠ 0) : ∃ a, leadM r = some a := by
  cases e : leadM r with
  | some a => exact ⟨a, rfl⟩
  | none =>
    obtain ⟨i, hi⟩ := h
    exact absurd (lead_none.mp e i) hi
def headOk (r : List (Fq q)) : Bool := decide (((r.filter fun x => decide (x ≠ 0))[0]?.getD 0) = 1)
def firstM (q : Pm) (n : Nat) : List (List (Fq q)) := ((List.range (q.n ^ n - 1)).map fun i => rowN q n (1 + i)).filter headOk
/-- a row of each line, its first number other than 0 being 1 -/
theorem line_rep {n : Nat} {x : Vc (Fq q)} (hx : Fu n x) (hz : ∃ i, x i ≠ 0) : ∃ (r : List (Fq q)) (c : Fq q) (a : Nat), r.length = n ∧ vc r = (fun i => c * x i) ∧ leadM r = some a ∧ vc r a = 1 := by
  obtain ⟨a, ha⟩ := nz_lead (r := lst n x) (by rw [vc_lst' hx]; exact hz)
  obtain ⟨h1, h2⟩ := lead_some.mp ha
  rw [vc_lst' hx] at h1 h2
  have h3 := Fd.mul_inv _ h1
  have hc : Fu n fun i => Fd.inv (x a) * x i := (Fu.sub n).smul _ hx
  have e := vc_lst' hc
  refine ⟨lst n fun i => Fd.inv (x a) * x i, Fd.inv (x a), a, lst_len _ _, e, lead_some.mpr ⟨?_, fun m hm => ?_⟩, ?_⟩
  · rw [e]
    show Fd.inv (x a) * x a ≠ 0
    rw [show Fd.inv (x a) * x a = 1 by grind]
    exact Fd.ne
  · rw [e]
    show Fd.inv (x a) * x m = 0
    rw [h2 m hm]; grind
  · rw [e]
    show Fd.inv (x a) * x a = 1
    grind
theorem first_fr (n : Nat) : FR n (firstM q n) := by
  refine ⟨fun r hr => ?_, fun r hr => ?_, fun x hx hz => ?_⟩
  · unfold firstM at hr
    obtain ⟨i, _, rfl⟩ := List.mem_map.mp (List.mem_filter.mp hr).1
    exact rowN_len _ _
  · unfold firstM at hr
    obtain ⟨i, hi, rfl⟩ := List.mem_map.mp (List.mem_filter.mp hr).1
    rw [List.mem_range] at hi
    exact mem_nz (rowN_nz (by omega) (by omega))
  · obtain ⟨r, c, a, h1, h2, h3, h4⟩ := line_rep hx hz
    obtain ⟨k, hk, e⟩ := rowN_all h1
    have hk1 : 1 ≤ k := by
      apply Nat.pos_of_ne_zero
      intro z
      subst z
      have h5 : ∀ b, b ∈ r → b = 0 := by
        rw [← e]
        intro b hb
        unfold rowN at hb
        rw [List.mem_reverse] at hb
        have hd : ∀ (m : Nat) (b : Fq q), b ∈ digs q m 0 → b = 0 := by
          intro m
          induction m with
          | zero => intro b hb; simp [digs] at hb
          | succ m ih =>
            intro b hb
            rcases List.mem_cons.mp hb with hb | hb
            · rw [hb]; exact vl_inj (by rw [vl_el, vl_zero]; simp)
            · rw [Nat.zero_div] at hb; exact ih b hb
        exact hd n b hb
      have h6 : a < r.length := by
        apply Nat.lt_of_not_le
        intro z
        rw [vc_ge z] at h4
        exact Fd.ne h4.symm
      have h7 := h5 _ (List.getElem_mem h6)
      rw [vc_lt (List.getElem?_eq_getElem h6), h7] at h4
      exact Fd.ne h4.symm
    refine ⟨r, ?_, c, h2⟩
    unfold firstM
    rw [List.mem_filter]
    refine ⟨List.mem_map.mpr ⟨k - 1, List.mem_range.mpr (by omega), by rw [show 1 + (k - 1) = k by omega]; exact e⟩, ?_⟩
    unfold headOk
    rw [filt_head h3, h4]
    simp
/-! the law's lines -/
def extM (q : Pm) (s : List (List (Fq q))) : List (List (Fq q)) := s.flatMap fun row => (List.range q.n).map fun j : Nat => row ++ [el q (j : Int)]
def extN (q : Pm) : Nat → List (List (Fq q)) → List (List (Fq q))
  | 0, s => s
  | n + 1, s => extM q (extN q n s)
theorem ext_len (s : List (List (Fq q))) : (extM q s).length = s.length * q.n := by
  unfold extM
  induction s with
  | nil => simp
  | cons r s ih => rw [List.flatMap_cons, List.length_append, ih, List.length_map, List.length_range, List.length_cons, Nat.add_mul, Nat.one_mul, Nat.add_comm]
theorem extN_len (n : Nat) (s : List (List (Fq q))) : (extN q n s).length = s.length * q.n ^ n := by
  induction n with
  | zero => simp [extN]
  | succ n ih => show (extM q (extN q n s)).length = _; rw [ext_len, ih, Nat.pow_succ, Nat.mul_assoc]
theorem mem_ext {s : List (List (Fq q))} {r : List (Fq q)} : r ∈ extM q s ↔ ∃ row, row ∈ s ∧ ∃ a, r = row ++ [a] := by
  unfold extM
  rw [List.mem_flatMap]
  constructor
  · rintro ⟨row, h1, h2⟩
    obtain ⟨j, _, rfl⟩ := List.mem_map.mp h2
    exact ⟨row, h1, _, rfl⟩
  · rintro ⟨row, h1, a, rfl⟩
    refine ⟨row, h1, List.mem_map.mpr ⟨a.val, List.mem_range.mpr a.isLt, ?_⟩⟩
    have := el_vl a
    unfold vl at this
    rw [this]
theorem mem_extN {r : List (Fq q)} {s : List (List (Fq q))} : ∀ {n : Nat}, r ∈ extN q n s ↔ ∃ row, row ∈ s ∧ ∃ t, t.length = n ∧ r = row ++ t
  | 0 => ⟨fun h => ⟨r, h, [], rfl, by simp⟩, fun ⟨row, h, t, ht, e⟩ => by
      rw [List.length_eq_zero_iff.mp ht, List.append_nil] at e
      rw [e]; exact h⟩
  | n + 1 => by
    show r ∈ extM q (extN q n s) ↔ _
    rw [mem_ext]
    constructor
    · rintro ⟨row, h, a, rfl⟩
      obtain ⟨row', h1, t, h2, rfl⟩ := mem_extN.mp h
      exact ⟨row', h1, t ++ [a], by simp [h2], by simp⟩
    · rintro ⟨row, h, t, ht, rfl⟩
      have hne : t ≠ [] := fun z => by rw [z] at ht; simp at ht
      refine ⟨row ++ t.dropLast, mem_extN.mpr ⟨row, h, t.dropLast, by rw [List.length_dropLast]; omega, rfl⟩, t.getLast hne, ?_⟩
      rw [List.append_assoc, List.dropLast_concat_getLast]
def lineM (q : Pm) (n a : Nat) : List (List (Fq q)) := extN q (n - a - 1) [List.replicate a 0 ++ [1]]
def linesM (q : Pm) (n : Nat) : List (List (Fq q)) := (List.range n).flatMap (lineM q n)
theorem lines_fr (n : Nat) : FR n (linesM q n) := by
  have hm : ∀ r, r ∈ linesM q n → ∃ a t, a < n ∧ t.length = n - a - 1 ∧ r = (List.replicate a 0 ++ [1]) ++ t := by
    intro r hr
    unfold linesM at hr
    obtain ⟨a, ha, hr⟩ := List.mem_flatMap.mp hr
    rw [List.mem_range] at ha
    obtain ⟨row, h1, t, h2, h3⟩ := mem_extN.mp hr
    rw [List.mem_singleton] at h1
    exact ⟨a, t, ha, h2, by rw [h3, h1]⟩
  refine ⟨fun r hr => ?_, fun r hr => ?_, fun x hx hz => ?_⟩
  · obtain ⟨a, t, h1, h2, rfl⟩ := hm r hr
    simp
    omega
  · obtain ⟨a, t, h1, h2, rfl⟩ := hm r hr
    exact mem_nz ⟨1, by simp, Fd.ne⟩
  · obtain ⟨r, c, a, h1, h2, h3, h4⟩ := line_rep hx hz
    obtain ⟨h5, h6⟩ := lead_some.mp h3
    have ha : a < r.length := by
      apply Nat.lt_of_not_le
      intro z
      rw [vc_ge z] at h4
      exact Fd.ne h4.symm
    refine ⟨r, ?_, c, h2⟩
    unfold linesM
    refine List.mem_flatMap.mpr ⟨a, List.mem_range.mpr (by omega), mem_extN.mpr ⟨List.replicate a 0 ++ [1], by simp, r.drop (a + 1), by rw [List.length_drop]; omega, ?_⟩⟩
    have e1 : r.take (a + 1) = List.replicate a 0 ++ [1] := by
      rw [List.take_add_one, List.getElem?_eq_getElem ha]
      have e2 : r.take a = List.replicate a 0 := by
        apply List.ext_getElem
        · simp; omega
        · intro i hi hi2
          rw [List.getElem_take, List.getElem_replicate]
          simp at hi2
          have := h6 i hi2
          rw [vc_lt (List.getElem?_eq_getElem (by omega))] at this
          exact this
      rw [e2]
      have : r[a] = 1 := by
        rw [vc_lt (List.getElem?_eq_getElem ha)] at h4
        exact h4
      rw [this]; rfl
    rw [← e1, List.take_append_drop]
theorem geo (p n : Nat) (hp : 2 ≤ p) : ∀ k, k ≤ n → ((List.range k).map fun a => p ^ (n - a - 1)).sum + p ^ (n - k) ≤ p ^ n
  | 0, _ => by simp
  | k + 1, h => by
    have ih := geo p n hp k (by omega)
    rw [List.range_succ, List.map_append, List.sum_append]
    have e : p ^ (n - k) = p * p ^ (n - (k + 1)) := by
      rw [show n - k = (n - (k + 1)) + 1 by omega, Nat.pow_succ, Nat.mul_comm]
    have e2 : n - k - 1 = n - (k + 1) := by omega
    simp only [List.map_cons, List.map_nil, List.sum_cons, List.sum_nil, Nat.add_zero, e2]
    have : 2 * p ^ (n - (k + 1)) ≤ p * p ^ (n - (k + 1)) := Nat.mul_le_mul_right _ hp
    omega
theorem lineM_len (n a : Nat) : (lineM q n a).length = q.n ^ (n - a - 1) := by unfold lineM; rw [extN_len]; simp
theorem lines_len (n k : Nat) (h : k ≤ n) : ((List.range k).flatMap (lineM q n)).length ≤ q.n ^ n := by
  have := geo q.n n q.pos.1 k h
  rw [List.length_flatMap]
  have e : (List.range k).map (fun a => (lineM q n a).length) = (List.range k).map fun a => q.n ^ (n - a - 1) := List.map_congr_left fun a _ => lineM_len n a
  rw [e]
  omega
end
end Still

set_option linter.all false
set_option maxHeartbeats 1000000
namespace Still
open Lean.Grind (CommRing)
/-! what a table that goes along has to give -/
section
variable {F : Type} [CommRing F] [DecidableEq F]
theorem lst_getq {N : Nat} {f : Vc F} (i : Nat) : (lst N f)[i]? = if i < N then some (f i) else none := by
  unfold lst
  rw [List.getElem?_map]
  by_cases h : i < N
  · rw [if_pos h, List.getElem?_range h]; rfl
  · rw [if_neg h, List.getElem?_eq_none (by rw [List.length_range]; omega)]; rfl
theorem lst_set {N p : Nat} {f : Vc F} {v : F} (hp : p < N) : (lst N f).set p v = lst N fun x => if x = p then v else f x := by
  apply List.ext_getElem?
  intro i
  rw [List.getElem?_set, lst_len, lst_getq, lst_getq]
  by_cases h : p = i
  · subst h; simp [hp]
  · rw [if_neg h]
    have h2 : ¬ i = p := fun z => h z.symm
    simp only [if_neg h2]
theorem lst_congr {N : Nat} {f g : Vc F} (h : ∀ i, i < N → f i = g i) : lst N f = lst N g := by
  unfold lst
  exact List.map_congr_left fun i hi => h i (List.mem_range.mp hi)
theorem lst_get {N p : Nat} {f : Vc F} (hp : p < N) : (lst N f)[p]? = some (f p) := by rw [lst_getq, if_pos hp]
theorem pos_iff {w k j x : Nat} (hj : j < w) : x = k * w + j ↔ x % w = j ∧ x / w = k := by
  constructor
  · intro h
    subst h
    rw [Nat.mul_comm, Nat.mul_add_mod, Nat.mod_eq_of_lt hj, Nat.mul_add_div (by omega), Nat.div_eq_of_lt hj]
    exact ⟨rfl, rfl⟩
  · rintro ⟨h1, h2⟩
    have := Nat.div_add_mod x w
    rw [h1, h2] at this
    rw [Nat.mul_comm]
    exact this.symm
/-- after k turns of the first loop, of the second -/
def askA (w : Nat) (A : List (List F)) (i j k : Nat) : Vc F := fun x => if x % w = j ∧ x / w < k then en A i (x / w) else 0
def askB (w : Nat) (A B : List (List F)) (m i j k : Nat) : Vc F := fun x => askA w A i j m x - if x / w = i ∧ x % w < k then en B (x % w) j else 0
def askM (m w : Nat) (A B : List (List F)) (i j : Nat) : List F := lst (m * w) (askB w A B m i j w)
theorem cell_lt {m w k j : Nat} (hk : k < m) (hj : j < w) : k * w + j < m * w := by
  calc k * w + j < k * w + w := by omega
    _ = (k + 1) * w := by rw [Nat.add_mul, Nat.one_mul]
    _ ≤ m * w := Nat.mul_le_mul_right _ hk
theorem askA_zero (w : Nat) (A : List (List F)) (i j : Nat) (N : Nat) : List.replicate N 0 = lst N (askA w A i j 0) := by
  apply List.ext_getElem
  · simp [lst]
  · intro k h1 h2
    unfold lst askA
    simp
theorem askA_step {m w k j i : Nat} {A : List (List F)} (hk : k < m) (hj : j < w) : (lst (m * w) (askA w A i j k)).set (k * w + j) (en A i k) = lst (m * w) (askA w A i j (k + 1)) := by
  rw [lst_set (cell_lt hk hj)]
  refine lst_congr fun x hx => ?_
  unfold askA
  by_cases h : x = k * w + j
  · obtain ⟨h1, h2⟩ := (pos_iff hj).mp h
    rw [if_pos h, if_pos ⟨h1, by omega⟩, h2]
  · rw [if_neg h]
    by_cases h3 : x % w = j ∧ x / w < k
    · rw [if_pos h3, if_pos ⟨h3.1, by omega⟩]
    · rw [if_neg h3, if_neg]
      rintro ⟨h4, h5⟩
      apply h
      rw [pos_iff hj]
      refine ⟨h4, ?_⟩
      apply Classical.byContradiction
      intro h6
      exact h3 ⟨h4, by omega⟩
theorem askB_zero (m w : Nat) (A B : List (List F)) (i j : Nat) : lst (m * w) (askA w A i j m) = lst (m * w) (askB w A B m i j 0) := lst_congr fun x _ => by
  unfold askB
  rw [if_neg (by omega)]; grind
theorem askB_step {m w k j i : Nat} {A B : List (List F)} (hi : i < m) (hk : k < w) : (lst (m * w) (askB w A B m i j k)).set (i * w + k) (askB w A B m i j k (i * w + k) - en B k j) = lst (m * w) (askB w A B m i j (k + 1)) := by
  rw [lst_set (cell_lt hi hk)]
  refine lst_congr fun x hx => ?_
  by_cases h : x = i * w + k
  · obtain ⟨h1, h2⟩ := (pos_iff hk).mp h
    rw [if_pos h, ← h]
    unfold askB
    rw [if_neg (show ¬ (x / w = i ∧ x % w < k) by omega), if_pos ⟨h2, by omega⟩, h1]; grind
  · rw [if_neg h]
    unfold askB
    congr 1
    by_cases h3 : x / w = i ∧ x % w < k
    · rw [if_pos h3, if_pos ⟨h3.1, by omega⟩]
    · rw [if_neg h3, if_neg]
      rintro ⟨h4, h5⟩
      apply h
      rw [pos_iff hk]
      refine ⟨?_, h4⟩
      apply Classical.byContradiction
      intro h6
      exact h3 ⟨h4, by omega⟩
theorem ask_len (m w : Nat) (A B : List (List F)) (i j : Nat) : (askM m w A B i j).length = m * w := lst_len _ _
theorem sm_app (f : Nat → F) (a : Nat) : ∀ b : Nat, sm (a + b) f = sm a f + sm b fun i => f (a + i)
  | 0 => by show sm a f = sm a f + 0; grind
  | b + 1 => by
    show sm (a + b) f + f (a + b) = sm a f + (sm b (fun i => f (a + i)) + f (a + b))
    rw [sm_app f a b]; grind
theorem sm_prod (f : Nat → F) (w : Nat) : ∀ m : Nat, sm (m * w) f = sm m fun a => sm w fun b => f (a * w + b)
  | 0 => by rw [Nat.zero_mul]; rfl
  | m + 1 => by
    rw [Nat.add_mul, Nat.one_mul, sm_app, sm_prod f w m]; rfl
theorem fu_ask (m w : Nat) (A B : List (List F)) (i j x : Nat) (hx : x < m * w) : vc (askM m w A B i j) x = askB w A B m i j w x := vc_lt (lst_get hx)
theorem dot_ask {m w i j : Nat} {A B : List (List F)} (hi : i < m) (hj : j < w) (t : Vc F) : dot (m * w) (vc (askM m w A B i j)) t = (sm m fun a => en A i a * t (a * w + j)) - sm w fun b => t (i * w + b) * en B b j := by
  have e1 : dot (m * w) (vc (askM m w A B i j)) t = sm (m * w) fun x => askA w A i j m x * t x - 1 * ((if x / w = i ∧ x % w < w then en B (x % w) j else 0) * t x) := sm_congr fun x hx => by
    rw [fu_ask m w A B i j x hx]
    unfold askB; grind
  rw [e1, sm_tk, sm_prod, sm_prod]
  have e2 : (sm m fun a => sm w fun b => askA w A i j m (a * w + b) * t (a * w + b)) = sm m fun a => en A i a * t (a * w + j) := sm_congr fun a ha => by
    rw [sm_one hj fun b hb hne => ?_]
    · obtain ⟨h1, h2⟩ := (pos_iff hj).mp (rfl : a * w + j = a * w + j)
      unfold askA
      rw [if_pos ⟨h1, by omega⟩, h2]
    · obtain ⟨h1, h2⟩ := (pos_iff hb).mp (rfl : a * w + b = a * w + b)
      unfold askA
      rw [if_neg (by omega)]; grind
  have e3 : (sm m fun a => sm w fun b => (if (a * w + b) / w = i ∧ (a * w + b) % w < w then en B ((a * w + b) % w) j else 0) * t (a * w + b)) = sm w fun b => t (i * w + b) * en B b j := by
    rw [sm_one hi fun a ha hne => sm_zero fun b hb => ?_]
    · refine sm_congr fun b hb => ?_
      obtain ⟨h1, h2⟩ := (pos_iff hb).mp (rfl : i * w + b = i * w + b)
      rw [if_pos ⟨h2, by omega⟩, h1]; grind
    · obtain ⟨h1, h2⟩ := (pos_iff hb).mp (rfl : a * w + b = a * w + b)
      rw [if_neg (by omega)]; grind
  rw [e2, e3]; grind
def askedM (m w : Nat) (ts us : List (List (List F))) : List (List F) := (ts.zip us).flatMap fun p => (List.range m).flatMap fun i => (List.range w).map fun j => askM m w p.1 p.2 i j
theorem asked_row {m w : Nat} {ts us : List (List (List F))} {r : List F} (h : r ∈ askedM m w ts us) : ∃ p i j, p ∈ ts.zip us ∧ i < m ∧ j < w ∧ r = askM m w p.1 p.2 i j := by
  unfold askedM at h
  obtain ⟨p, hp, h⟩ := List.mem_flatMap.mp h
  obtain ⟨i, hi, h⟩ := List.mem_flatMap.mp h
  obtain ⟨j, hj, rfl⟩ := List.mem_map.mp h
  exact ⟨p, i, j, hp, List.mem_range.mp hi, List.mem_range.mp hj, rfl⟩
theorem asked_mem {m w i j : Nat} {ts us : List (List (List F))} {p : List (List F) × List (List F)} (hp : p ∈ ts.zip us) (hi : i < m) (hj : j < w) : askM m w p.1 p.2 i j ∈ askedM m w ts us := by
  unfold askedM
  exact List.mem_flatMap.mpr ⟨p, hp, List.mem_flatMap.mpr ⟨i, List.mem_range.mpr hi, List.mem_map.mpr ⟨j, List.mem_range.mpr hj, rfl⟩⟩⟩
theorem asked_len (m w : Nat) (ts us : List (List (List F))) : ∀ r, r ∈ askedM m w ts us → r.length = m * w := fun r hr => by
  obtain ⟨p, i, j, _, _, _, rfl⟩ := asked_row hr
  exact ask_len _ _ _ _ _ _
variable [Fd F]
def baseF (m w : Nat) (ts us : List (List (List F))) : List (List F) := acrM (m * w) (lowM (askedM m w ts us))
theorem base_iff {m w : Nat} {ts us : List (List (List F))} : baseF m w ts us ≠ [] ↔ ∃ t : Vc F, Fu (m * w) t ∧ (∃ i, t i ≠ 0) ∧ ∀ p, p ∈ ts.zip us → Goes m w p.1 p.2 t := by
  have hlen := asked_len m w ts us
  have hlo := low_lo hlen
  have key : ∀ t : Vc F, Spn (baseF m w ts us) t ↔ Fu (m * w) t ∧ ∀ p, p ∈ ts.zip us → Goes m w p.1 p.2 t := by
    intro t
    unfold baseF
    rw [acr_sp hlo.toPre]
    constructor
    · rintro ⟨h1, h2⟩
      refine ⟨h1, fun p hp i hi j hj => ?_⟩
      have := h2 _ ((low_sp hlen _).mpr (Spn.mem (asked_mem hp hi hj)))
      rw [dot_ask hi hj] at this
      grind
    · rintro ⟨h1, h2⟩
      refine ⟨h1, fun x hx => ?_⟩
      refine ((low_sp hlen x).mp hx).le (P := fun x => dot (m * w) x t = 0) ⟨?_, fun x y c hx hy => ?_⟩ fun r hr => ?_
      · show dot (m * w) (fun _ => 0) t = 0
        rw [dot_comm, dot_zero]
      · show dot (m * w) (fun i => x i - c * y i) t = 0
        rw [dot_comm, dot_tk, dot_comm, hx, dot_comm, hy]; grind
      · obtain ⟨p, i, j, hp, hi, hj, rfl⟩ := asked_row hr
        rw [dot_ask hi hj, h2 p hp i hi j hj]; grind
  constructor
  · intro hne
    obtain ⟨r, hr⟩ : ∃ r, r ∈ baseF m w ts us := by
      cases e : baseF m w ts us with
      | nil => exact absurd e hne
      | cons r t => exact ⟨r, by simp⟩
    obtain ⟨h1, h2⟩ := (key (vc r)).mp (Spn.mem hr)
    have lo := acr_lo hlo.toPre
    exact ⟨vc r, h1, ⟨ld r, by rw [lo.one r hr]; exact Fd.ne⟩, h2⟩
  · rintro ⟨t, h1, ⟨i, hi⟩, h2⟩ e
    have := (key t).mpr ⟨h1, h2⟩
    rw [e] at this
    exact hi (Spn.nil this i)
def chunkM (m w : Nat) (row : List F) : List (List F) := (List.range m).map fun a => (row.drop (a * w)).take w
end
end Still

set_option Elab.async false
set_option linter.all false
set_option maxRecDepth 100000
namespace Still
open PySem PySem.Spec PyProof.Rows L2
/-! the text, by places -/
abbrev prg : Program := PySem.Challenge.pw_stillspans_k46_whole_turned_towers
def topS (i : Nat) : Stmt := prg.main.body.getD i (.Pass ⟨0, 0, 0, 0⟩)
def fnTab0 : List (Str × Nat) := [("contrary_rest", 6), ("lead", 7), ("scaled", 8), ("taken", 9), ("left_of", 10), ("with_row", 11), ("low", 12), ("is_whole", 13), ("is_row", 14), ("is_low", 15), ("has", 16), ("mixed", 17), ("across", 18), ("led", 20), ("turned", 21), ("plain", 22), ("many_rows", 24), ("turned_crew", 25), ("is_still", 27), ("spin", 28)]
def fnTab1 : List (Str × Nat) := [("row_numbered", 30), ("first_rows", 31), ("still_span", 32), ("is_tight", 33), ("look_fit", 35), ("asked", 36), ("asked_rows", 37), ("as_tables", 38), ("base", 39), ("first_alike", 40), ("is_within", 42), ("rows_between", 43), ("written", 44), ("part_between", 45), ("lifted", 46), ("steps_between", 47), ("copied", 48), ("tower", 49), ("parts_of", 50), ("is_form_of", 51)]
def fnTab2 : List (Str × Nat) := [("is_tower", 52), ("paired", 53), ("pairing", 54), ("_law_cell", 56), ("_law_bag", 57), ("_law_take", 58), ("_law_back", 59), ("_law_less", 60), ("_law_form", 61), ("_law_in", 62), ("_law_whole", 63), ("_law_rows_like", 64), ("_law_fit", 65), ("_law_number", 66), ("_law_added", 67), ("_law_led", 68), ("_law_product", 69), ("_law_doubled", 70), ("_law_drawn_table", 71), ("_law_stepped", 72)]
def fnTab3 : List (Str × Nat) := [("_law_crew", 73), ("_law_spin", 74), ("_law_lines", 75), ("_law_is_tight", 76), ("_law_unit", 77), ("_law_lead", 78), ("_law_part", 79), ("_law_is_still", 80), ("_law_is_form", 81), ("_law_is_tower", 82), ("_law_across", 83), ("_law_sizes", 84), ("_law_turned", 85), ("law", 86)]
def fnTab : List (Str × Nat) := fnTab0 ++ (fnTab1 ++ (fnTab2 ++ fnTab3))
def frees : List Str := ["abs", "all", "any", "bool", "enumerate", "int", "isinstance", "len", "list", "max", "range", "sorted", "zip"]
abbrev FnP (K : PySem.W.Frag) (x : Str) (i : Nat) (f : Addr) (fd : FuncData) : Prop := FunD K x x (defArgs (topS i)) (defBody (topS i)) (defScope (topS i)) [] [] f fd
def HasFn (K : PySem.W.Frag) (mg : Str → Option Value) (x : Str) (i : Nat) : Prop := ∃ f fd, FnP K x i f fd ∧ mg x = some (.ref f)
/-- what the module's names hold -/
structure Tp (K : PySem.W.Frag) (mg : Str → Option Value) : Prop where
  fn : ∀ p, p ∈ fnTab → HasFn K mg p.1 p.2
  fr : ∀ x, x ∈ frees → mg x = none
  longest : ∃ t, mg "LONGEST" = some (.int 36 t)
end Still

set_option Elab.async false
set_option linter.all false
set_option maxRecDepth 100000
set_option maxHeartbeats 0
namespace Still
open PySem PySem.Spec PyProof.Rows L2
def mkD (p : Str × Nat) : He.DefD := ⟨(p.1, none), p.1, p.1, defArgs (topS p.2), defBody (topS p.2), defScope (topS p.2), [], []⟩
def fnD : List He.DefD := fnTab.map mkD
def faD : List He.Fa := He.Fa.int "LONGEST" 36 :: (frees.map He.Fa.free ++ fnTab.map fun p => He.Fa.glo p.1)
abbrev Rw : PySem.W.OpenRow := PySem.W.OpenLaw.row PySem.Challenge.rw_stillspans_k46_whole_turned_towers
abbrev hk : PySem.W.Hook := He.hookD 4 faD fnD
def ob (s : PySem.W.SharedT) : He.AlD := He.obsDG 4 faD fnD (HandSHeadRun.getT s)
theorem ob_eq (s : PySem.W.SharedT) : ob s = hk.obs s.abs := He.obsDG_eq (HandSHeadRun.getT_eq s)
def loose0 : List PySem.Str := ["SpanError", "NoTower", "NoPair", "LONGEST", "contrary_rest", "lead", "scaled", "taken", "left_of", "with_row", "low", "is_whole", "is_row", "is_low", "has", "mixed", "across", "led", "turned", "plain"]
def loose1 : List PySem.Str := ["many_rows", "turned_crew", "is_still", "spin", "row_numbered", "first_rows", "still_span", "is_tight", "look_fit", "asked", "asked_rows", "as_tables", "base", "first_alike", "is_within", "rows_between", "written", "part_between", "lifted", "steps_between"]
def loose2 : List PySem.Str := ["copied", "tower", "parts_of", "is_form_of", "is_tower", "paired", "pairing", "_law_cell", "_law_bag", "_law_take", "_law_back", "_law_less", "_law_form", "_law_in", "_law_whole", "_law_rows_like", "_law_fit", "_law_number", "_law_added", "_law_led"]
def loose3 : List PySem.Str := ["_law_product", "_law_doubled", "_law_drawn_table", "_law_stepped", "_law_crew", "_law_spin", "_law_lines", "_law_is_tight", "_law_unit", "_law_lead", "_law_part", "_law_is_still", "_law_is_form", "_law_is_tower", "_law_across", "_law_sizes", "_law_turned"]
def loose : List PySem.Str := loose0 ++ (loose1 ++ (loose2 ++ loose3))
theorem run (w : World) : HandSHeadRun.RunEq Rw (PySem.W.view Rw.prog [86]) hk ob 4000 loose w := by
  intro os
  kernel_rfl
end Still

set_option Elab.async false
set_option linter.all false
set_option maxRecDepth 100000
set_option maxHeartbeats 4000000
namespace Still
open PySem PySem.Spec PyProof.Rows L2
/-! representations: what a value stands for, apart from hidden addresses -/
abbrev AX := Addr → Prop
abbrev Ob := AX → Hp → V → Prop
def Kn (X : AX) (H : Hp) : Prop := ∀ a, X a → H a ≠ none
/-- what is seen in H but for X is seen in H1 but for Y -/
structure Lt (X : AX) (H : Hp) (Y : AX) (H1 : Hp) : Prop where
  go : ∀ a o, ¬ X a → H a = some o → ¬ Y a ∧ H1 a = some o
  kn : Kn Y H1
  wk : ∀ a, X a → Y a
theorem Lt.refl {X : AX} {H : Hp} (k : Kn X H) : Lt X H X H := ⟨fun _ _ n e => ⟨n, e⟩, k, fun _ h => h⟩
theorem Lt.trans {X Y Z : AX} {H H1 H2 : Hp} (a : Lt X H Y H1) (b : Lt Y H1 Z H2) : Lt X H Z H2 :=
  ⟨fun c o n e => b.go c o (a.go c o n e).1 (a.go c o n e).2, b.kn, fun c h => b.wk c (a.wk c h)⟩
theorem Kn.same {X : AX} {H H1 : Hp} (k : Kn X H) (s : Same H H1) : Kn X H1 := fun a h e => by
  have h1 := k a h
  cases q : H a with
  | none => exact h1 q
  | some o => rw [s a o q] at e; cases e
theorem Lt.same {X Y : AX} {H H1 H2 : Hp} (a : Lt X H Y H1) (s : Same H1 H2) : Lt X H Y H2 :=
  ⟨fun c o n e => ⟨(a.go c o n e).1, s c o (a.go c o n e).2⟩, a.kn.same s, a.wk⟩
theorem Lt.of {X : AX} {H H1 : Hp} (k : Kn X H) (s : Same H H1) : Lt X H X H1 := (Lt.refl k).same s
/-- one more is hidden -/
def hid (X : AX) (a : Addr) : AX := fun b => X b ∨ b = a
theorem Lt.hide {X Y : AX} {H H1 : Hp} {l : Addr} {o : HO} (a : Lt X H Y H1) (n : H1 l = none) : Lt X H (hid Y l) (upd H1 l o) := by
  refine ⟨fun c u h e => ?_, fun c h => ?_, fun c h => .inl (a.wk c h)⟩
  · obtain ⟨h1, h2⟩ := a.go c u h e
    have hc : c ≠ l := ne_of_none h2 n
    refine ⟨fun z => z.elim h1 hc, ?_⟩
    rw [upd_ne hc]
    exact h2
  · by_cases hc : c = l
    · rw [hc, upd_same]
      exact fun z => nomatch z
    · rw [upd_ne hc]
      exact a.kn c (h.elim id fun z => absurd z hc)
/-- a hidden one is written -/
theorem Lt.write {X Y : AX} {H H1 : Hp} {l : Addr} {o : HO} (a : Lt X H Y H1) (n : Y l) : Lt X H Y (upd H1 l o) := by
  refine ⟨fun c u h e => ?_, fun c h => ?_, a.wk⟩
  · obtain ⟨h1, h2⟩ := a.go c u h e
    have hc : c ≠ l := fun z => h1 (z ▸ n)
    refine ⟨h1, ?_⟩
    rw [upd_ne hc]
    exact h2
  · by_cases hc : c = l
    · rw [hc, upd_same]
      exact fun z => nomatch z
    · rw [upd_ne hc]
      exact a.kn c h
theorem same_new {H : Hp} {p : Addr} {o : HO} (h : H p = none) : Same H (upd H p o) := fun b x e => by
  rw [upd_ne (ne_of_none e h)]
  exact e
class Rep (O : Ob) : Prop where
  go : ∀ {X Y : AX} {H H1 : Hp} {v : V}, (∀ a o, ¬ X a → H a = some o → ¬ Y a ∧ H1 a = some o) → O X H v → O Y H1 v
theorem up {O : Ob} [r : Rep O] {X Y : AX} {H H1 : Hp} {v : V} (l : Lt X H Y H1) (h : O X H v) : O Y H1 v := r.go l.go h
theorem dn {O : Ob} [r : Rep O] {X Y : AX} {H : Hp} {v : V} (l : ∀ a, X a → Y a) (h : O Y H v) : O X H v := r.go (fun a o n e => ⟨fun z => n (l a z), e⟩) h
theorem rsm {O : Ob} [r : Rep O] {X : AX} {H H1 : Hp} {v : V} (s : Same H H1) (h : O X H v) : O X H1 v := r.go (fun a o n e => ⟨n, s a o e⟩) h

def oV (z : V) : Ob := fun _ _ v => v = z
abbrev oI (i : Int) : Ob := oV (.int i)
abbrev oN (i : Nat) : Ob := oV (.int (i : Int))
abbrev oB (b : Bool) : Ob := oV (.bl b)
instance (z : V) : Rep (oV z) := ⟨fun _ h => h⟩
/-- a list, by its items -/
def oL {α : Type} (R : α → Ob) (xs : List α) : Ob := fun X H v => ∃ (a : Addr) (vs : List V), v = .ref a ∧ ¬ X a ∧ H a = some (.lst vs) ∧ vs.length = xs.length ∧ xs.length ≤ 5000 ∧ ∀ (i : Nat) (u : V) (x : α), vs[i]? = some u → xs[i]? = some x → R x X H u
instance {α : Type} (R : α → Ob) [r : ∀ x, Rep (R x)] (xs : List α) : Rep (oL R xs) := ⟨fun g ⟨a, vs, e, n, h, l, b, f⟩ => ⟨a, vs, e, (g a _ n h).1, (g a _ n h).2, l, b, fun i u x e1 e2 => (r x).go g (f i u x e1 e2)⟩⟩
/-- a pair, by its two items -/
def oP (A B : Ob) : Ob := fun X H v => ∃ (a : Addr) (x y : V), v = .ref a ∧ ¬ X a ∧ H a = some (.tup [x, y]) ∧ A X H x ∧ B X H y
instance (A B : Ob) [ra : Rep A] [rb : Rep B] : Rep (oP A B) := ⟨fun g ⟨a, x, y, e, n, h, p, q⟩ => ⟨a, x, y, e, (g a _ n h).1, (g a _ n h).2, ra.go g p, rb.go g q⟩⟩
def oP3 (A B C : Ob) : Ob := fun X H v => ∃ (a : Addr) (x y z : V), v = .ref a ∧ ¬ X a ∧ H a = some (.tup [x, y, z]) ∧ A X H x ∧ B X H y ∧ C X H z
instance (A B C : Ob) [ra : Rep A] [rb : Rep B] [rc : Rep C] : Rep (oP3 A B C) := ⟨fun g ⟨a, x, y, z, e, n, h, p, q, r⟩ => ⟨a, x, y, z, e, (g a _ n h).1, (g a _ n h).2, ra.go g p, rb.go g q, rc.go g r⟩⟩
def oO {α : Type} (R : α → Ob) : Option α → Ob
  | none => oV .non
  | some x => R x
instance {α : Type} (R : α → Ob) [r : ∀ x, Rep (R x)] (o : Option α) : Rep (oO R o) := by
  cases o with
  | none => exact inferInstanceAs (Rep (oV .non))
  | some x => exact r x
def oEx {α : Type} (R : α → Ob) (P : α → Prop) : Ob := fun X H v => ∃ x, P x ∧ R x X H v
instance {α : Type} (R : α → Ob) [r : ∀ x, Rep (R x)] (P : α → Prop) : Rep (oEx R P) := ⟨fun g ⟨x, p, h⟩ => ⟨x, p, (r x).go g h⟩⟩

/-! what evaluates to what -/
def EvP (te : TE) (σ : L2.St) (X : AX) (H : Hp) (O : Ob) : Prop := ∀ Y H1, Lt X H Y H1 → ∀ Q : VK, (∀ H2 v, Same H1 H2 → O Y H2 v → Q v H2) → te σ H1 Q
def EvT (tt : TT) (σ : L2.St) (X : AX) (H : Hp) (b : Bool) : Prop := ∀ Y H1, Lt X H Y H1 → ∀ Q : Bool → Hp → Prop, (∀ H2, Same H1 H2 → Q b H2) → tt σ H1 Q
def EvA (ta : TA) (σ : L2.St) (X : AX) (H : Hp) (P : AX → Hp → List V → Prop) : Prop := ∀ Y H1, Lt X H Y H1 → ∀ Q : List V → Hp → Prop, (∀ H2 vs, Same H1 H2 → P Y H2 vs → Q vs H2) → ta σ H1 Q
section
variable {σ : L2.St} {X Y : AX} {H H1 : Hp} {ta tb tc td te : TE} {tt tu : TT} {O A B C D : Ob} {a b : Bool}
theorem EvP.up (h : EvP te σ X H O) (l : Lt X H Y H1) : EvP te σ Y H1 O := fun Z H2 k Q q => h Z H2 (l.trans k) Q q
theorem EvT.up (h : EvT tt σ X H a) (l : Lt X H Y H1) : EvT tt σ Y H1 a := fun Z H2 k Q q => h Z H2 (l.trans k) Q q
theorem EvP.run {Q : VK} (h : EvP te σ X H O) (k : Kn X H) (q : ∀ H1 v, Same H H1 → O X H1 v → Q v H1) : te σ H Q := h X H (Lt.refl k) Q q
theorem EvP.imp {O' : Ob} (h : EvP te σ X H O) (i : ∀ Y H1 v, Lt X H Y H1 → O Y H1 v → O' Y H1 v) : EvP te σ X H O' := fun Y H1 l Q q => h Y H1 l Q fun H2 v s o => q H2 v s (i Y H2 v (l.same s) o)
theorem EvP.eq (h : EvP te σ X H O) (e : O = C) : EvP te σ X H C := e ▸ h
theorem EvT.eq (h : EvT tt σ X H a) (e : a = b) : EvT tt σ X H b := e ▸ h
theorem ev_var [Rep O] {i : Nat} {v : V} (e : σ[i]? = some (some v)) (h : O X H v) : EvP (tVar i) σ X H O := fun Y H1 l Q q => ⟨v, e, q H1 v (Same.refl _) (Still.up l h)⟩
theorem ev_c {v : V} : EvP (tC v) σ X H (oV v) := fun Y H1 l Q q => q H1 v (Same.refl _) rfl
/-- two operands -/
theorem ev_op [Rep A] {r : R2} (ha : EvP ta σ X H A) (hb : EvP tb σ X H B) (h : ∀ Y H1 x y, Lt X H Y H1 → A Y H1 x → B Y H1 y → ∀ Q : VK, (∀ H2 v, Same H1 H2 → O Y H2 v → Q v H2) → r x y H1 Q) : EvP (tOp r ta tb) σ X H O := fun Y H1 l Q q =>
  ha Y H1 l _ fun H2 x s a => hb Y H2 (l.same s) _ fun H3 y s2 b => h Y H3 x y ((l.same s).same s2) (rsm s2 a) b Q fun H4 v s3 o => q H4 v ((s.trans s2).trans s3) o
theorem ev_un {r : V → Hp → VK → Prop} (ha : EvP ta σ X H A) (h : ∀ Y H1 x, Lt X H Y H1 → A Y H1 x → ∀ Q : VK, (∀ H2 v, Same H1 H2 → O Y H2 v → Q v H2) → r x H1 Q) : EvP (tUn r ta) σ X H O := fun Y H1 l Q q =>
  ha Y H1 l _ fun H2 x s a => h Y H2 x (l.same s) a Q fun H4 v s3 o => q H4 v (s.trans s3) o
theorem ev_I0 {g : Int → Int → V} {i j : Int} (ha : EvP ta σ X H (oI i)) (hb : EvP tb σ X H (oI j)) : EvP (tOp (rI0 g) ta tb) σ X H (oV (g i j)) :=
  ev_op ha hb fun Y H1 x y l a b Q q => ⟨i, j, a, b, q H1 _ (Same.refl _) rfl⟩
theorem ev_I {c : Int → Int → Prop} {g : Int → Int → V} {i j : Int} (ha : EvP ta σ X H (oI i)) (hb : EvP tb σ X H (oI j)) (hc : c i j) : EvP (tOp (rI c g) ta tb) σ X H (oV (g i j)) :=
  ev_op ha hb fun Y H1 x y l a b Q q => ⟨i, j, a, b, hc, q H1 _ (Same.refl _) rfl⟩
theorem ev_eq {u v : V} (ha : EvP ta σ X H (oV u)) (hb : EvP tb σ X H (oV v)) (h : scal u v = true) : EvP (tOp rEq ta tb) σ X H (oB (decide (u = v))) :=
  ev_op ha hb fun Y H1 x y l a b Q q => by
    have ea : x = u := a
    have eb : y = v := b
    subst ea eb
    exact ⟨h, q H1 _ (Same.refl _) rfl⟩
theorem ev_ne {u v : V} (ha : EvP ta σ X H (oV u)) (hb : EvP tb σ X H (oV v)) (h : scal u v = true) : EvP (tOp rNe ta tb) σ X H (oB (!decide (u = v))) :=
  ev_op ha hb fun Y H1 x y l a b Q q => by
    have ea : x = u := a
    have eb : y = v := b
    subst ea eb
    exact ⟨h, q H1 _ (Same.refl _) rfl⟩
/-- tests -/
theorem et_test (h : EvP te σ X H (oB a)) : EvT (tTest te) σ X H a := fun Y H1 l Q q => h Y H1 l _ fun H2 v s o => ⟨a, o, q H2 s⟩
theorem et_B (h : EvP te σ X H (oB a)) : EvT (tB te) σ X H a := fun Y H1 l Q q => h Y H1 l _ fun H2 v s o => ⟨a, o, q H2 s⟩
theorem et_yes : EvT tYes σ X H true := fun Y H1 l Q q => q H1 (Same.refl _)
theorem et_not (h : EvT tt σ X H a) : EvT (tNot tt) σ X H (!a) := fun Y H1 l Q q => h Y H1 l _ fun H2 s => q H2 s
theorem et_and (h : EvT tt σ X H a) (g : a = true → EvT tu σ X H b) : EvT (tAnd tt tu) σ X H (a && b) := fun Y H1 l Q q => h Y H1 l _ fun H2 s => by
  cases a with
  | true => exact g rfl Y H2 (l.same s) Q fun H3 s3 => q H3 (s.trans s3)
  | false => exact q H2 s
theorem et_or (h : EvT tt σ X H a) (g : a = false → EvT tu σ X H b) : EvT (tOr tt tu) σ X H (a || b) := fun Y H1 l Q q => h Y H1 l _ fun H2 s => by
  cases a with
  | false => exact g rfl Y H2 (l.same s) Q fun H3 s3 => q H3 (s.trans s3)
  | true => exact q H2 s
/-- truths as values -/
theorem ev_andV (h : EvP ta σ X H (oB a)) (g : a = true → EvP tb σ X H (oB b)) : EvP (tAndV ta tb) σ X H (oB (a && b)) := fun Y H1 l Q q => h Y H1 l _ fun H2 v s e => by
  refine ⟨a, e, ?_⟩
  cases a with
  | true => exact g rfl Y H2 (l.same s) Q fun H3 v s3 o => q H3 v (s.trans s3) o
  | false => exact q H2 _ s rfl
theorem ev_orV (h : EvP ta σ X H (oB a)) (g : a = false → EvP tb σ X H (oB b)) : EvP (tOrV ta tb) σ X H (oB (a || b)) := fun Y H1 l Q q => h Y H1 l _ fun H2 v s e => by
  refine ⟨a, e, ?_⟩
  cases a with
  | false => exact g rfl Y H2 (l.same s) Q fun H3 v s3 o => q H3 v (s.trans s3) o
  | true => exact q H2 _ s rfl
theorem ev_notV (h : EvP ta σ X H (oB a)) : EvP (tNotV ta) σ X H (oB (!a)) := fun Y H1 l Q q => h Y H1 l _ fun H2 v s e => ⟨a, e, q H2 _ s rfl⟩
theorem ev_isN {u : V} (h : EvP ta σ X H (oV u)) : EvP (tIsN ta) σ X H (oB (decide (u = .non))) := fun Y H1 l Q q => h Y H1 l _ fun H2 v s e => by
  have ev : v = u := e
  subst ev
  exact q H2 _ s rfl
/-! arguments -/
def a1 (A : Ob) : AX → Hp → List V → Prop := fun X H vs => ∃ v, vs = [v] ∧ A X H v
def a2 (A B : Ob) : AX → Hp → List V → Prop := fun X H vs => ∃ u v, vs = [u, v] ∧ A X H u ∧ B X H v
def a3 (A B C : Ob) : AX → Hp → List V → Prop := fun X H vs => ∃ u v w, vs = [u, v, w] ∧ A X H u ∧ B X H v ∧ C X H w
def a4 (A B C D : Ob) : AX → Hp → List V → Prop := fun X H vs => ∃ u v w x, vs = [u, v, w, x] ∧ A X H u ∧ B X H v ∧ C X H w ∧ D X H x
def a5 (A B C D E : Ob) : AX → Hp → List V → Prop := fun X H vs => ∃ u v w x y, vs = [u, v, w, x, y] ∧ A X H u ∧ B X H v ∧ C X H w ∧ D X H x ∧ E X H y
theorem ea1 (h : EvP ta σ X H A) : EvA (tCons ta tNil) σ X H (a1 A) := fun Y H1 l Q q => h Y H1 l _ fun H2 v s o => q H2 [v] s ⟨v, rfl, o⟩
theorem ea2 [Rep A] (ha : EvP ta σ X H A) (hb : EvP tb σ X H B) : EvA (tCons ta (tCons tb tNil)) σ X H (a2 A B) := fun Y H1 l Q q =>
  ha Y H1 l _ fun H2 u s o => hb Y H2 (l.same s) _ fun H3 v s2 o2 => q H3 [u, v] (s.trans s2) ⟨u, v, rfl, rsm s2 o, o2⟩
theorem ea3 [Rep A] [Rep B] (ha : EvP ta σ X H A) (hb : EvP tb σ X H B) (hc : EvP tc σ X H C) : EvA (tCons ta (tCons tb (tCons tc tNil))) σ X H (a3 A B C) := fun Y H1 l Q q =>
  ha Y H1 l _ fun H2 u s o => hb Y H2 (l.same s) _ fun H3 v s2 o2 => hc Y H3 ((l.same s).same s2) _ fun H4 w s3 o3 => q H4 [u, v, w] ((s.trans s2).trans s3) ⟨u, v, w, rfl, rsm (s2.trans s3) o, rsm s3 o2, o3⟩
theorem ea4 [Rep A] [Rep B] [Rep C] (ha : EvP ta σ X H A) (hb : EvP tb σ X H B) (hc : EvP tc σ X H C) (hd : EvP td σ X H D) : EvA (tCons ta (tCons tb (tCons tc (tCons td tNil)))) σ X H (a4 A B C D) := fun Y H1 l Q q =>
  ha Y H1 l _ fun H2 u s o => hb Y H2 (l.same s) _ fun H3 v s2 o2 => hc Y H3 ((l.same s).same s2) _ fun H4 w s3 o3 => hd Y H4 (((l.same s).same s2).same s3) _ fun H5 x s4 o4 =>
    q H5 [u, v, w, x] (((s.trans s2).trans s3).trans s4) ⟨u, v, w, x, rfl, rsm ((s2.trans s3).trans s4) o, rsm (s3.trans s4) o2, rsm s4 o3, o4⟩
theorem ea5 {E : Ob} [Rep A] [Rep B] [Rep C] [Rep D] (ha : EvP ta σ X H A) (hb : EvP tb σ X H B) (hc : EvP tc σ X H C) (hd : EvP td σ X H D) (he : EvP te σ X H E) : EvA (tCons ta (tCons tb (tCons tc (tCons td (tCons te tNil))))) σ X H (a5 A B C D E) := fun Y H1 l Q q =>
  ha Y H1 l _ fun H2 u s o => hb Y H2 (l.same s) _ fun H3 v s2 o2 => hc Y H3 ((l.same s).same s2) _ fun H4 w s3 o3 => hd Y H4 (((l.same s).same s2).same s3) _ fun H5 x s4 o4 => he Y H5 ((((l.same s).same s2).same s3).same s4) _ fun H6 y s5 o5 =>
    q H6 [u, v, w, x, y] ((((s.trans s2).trans s3).trans s4).trans s5) ⟨u, v, w, x, y, rfl, rsm (((s2.trans s3).trans s4).trans s5) o, rsm ((s3.trans s4).trans s5) o2, rsm (s4.trans s5) o3, rsm s5 o4, o5⟩
/-! promises -/
def mkSp {ι : Type} (P : ι → AX → Hp → List V → Prop) (O : ι → Ob) : Sp := fun vs H Q _ => ∃ (i : ι) (X : AX), Kn X H ∧ P i X H vs ∧ ∀ H1 v, Same H H1 → O i X H1 v → Q v H1
theorem ev_call {ι : Type} {P : ι → AX → Hp → List V → Prop} {R : ι → Ob} {ts : TA} (i : ι) (h : EvA ts σ X H (P i)) : EvP (tCall (mkSp P R) [] E0 ts) σ X H (R i) := fun Y H1 l Q q =>
  h Y H1 l _ fun H2 vs s p => ⟨i, Y, l.kn.same s, by rw [List.append_nil]; exact p, fun H3 v s3 o => q H3 v (s.trans s3) o⟩
/-- built-ins -/
theorem ev_cb {P : AX → Hp → List V → Prop} {r : List V → Hp → VK → Prop} {ts : TA} (h : EvA ts σ X H P) (k : ∀ Y H1 vs, Lt X H Y H1 → P Y H1 vs → ∀ Q : VK, (∀ H2 v, Same H1 H2 → O Y H2 v → Q v H2) → r vs H1 Q) : EvP (tCB r ts) σ X H O := fun Y H1 l Q q =>
  h Y H1 l _ fun H2 vs s p => k Y H2 vs (l.same s) p Q fun H3 v s3 o => q H3 v (s.trans s3) o
end
end Still

set_option Elab.async false
set_option linter.all false
set_option maxRecDepth 100000
set_option maxHeartbeats 4000000
namespace Still
open PySem PySem.Spec PyProof.Rows L2
/-! lists: new ones, items, loops, comprehensions -/
def Its {α : Type} (R : α → Ob) (X : AX) (H : Hp) (vs : List V) (xs : List α) : Prop := vs.length = xs.length ∧ ∀ (i : Nat) (u : V) (x : α), vs[i]? = some u → xs[i]? = some x → R x X H u
def rLenK (K : PySem.W.Frag) : List V → Hp → VK → Prop := fun xs H Q => ∃ p ys, xs = [.ref p] ∧ (SqL K H p ys ∨ SqT K H p ys) ∧ Q (.int ys.length) H
def rListK (K : PySem.W.Frag) : List V → Hp → VK → Prop := fun xs H Q => ∃ p ys, xs = [.ref p] ∧ (SqL K H p ys ∨ SqT K H p ys) ∧ ∀ l, H l = none → Q (.ref l) (upd H l (.lst ys))
section
variable {α β γ : Type} {R : α → Ob} {R' : β → Ob} {X Y : AX} {H H1 : Hp} {vs us : List V} {xs ys : List α} {σ : L2.St}
theorem Its.nil : Its R X H [] [] := ⟨rfl, fun i u x e => by simp at e⟩
theorem Its.snoc {u : V} {x : α} (h : Its R X H vs xs) (k : R x X H u) : Its R X H (vs ++ [u]) (xs ++ [x]) := by
  refine ⟨by simp [h.1], fun i v y e1 e2 => ?_⟩
  by_cases hi : i < vs.length
  · rw [List.getElem?_append_left hi] at e1
    rw [List.getElem?_append_left (by rw [← h.1]; exact hi)] at e2
    exact h.2 i v y e1 e2
  · have hl := (List.getElem?_eq_some_iff.mp e1).1
    rw [List.length_append, List.length_singleton] at hl
    have ei : i = vs.length := by omega
    subst ei
    rw [List.getElem?_append_right (Nat.le_refl _), Nat.sub_self] at e1
    have e3 := h.1
    rw [e3, List.getElem?_append_right (Nat.le_refl _), Nat.sub_self] at e2
    cases e1
    cases e2
    exact k
theorem Its.append {as bs : List α} (h : Its R X H vs as) (k : Its R X H us bs) : Its R X H (vs ++ us) (as ++ bs) := by
  refine ⟨by simp [h.1, k.1], fun i v y e1 e2 => ?_⟩
  by_cases hi : i < vs.length
  · rw [List.getElem?_append_left hi] at e1
    rw [List.getElem?_append_left (by rw [← h.1]; exact hi)] at e2
    exact h.2 i v y e1 e2
  · have hj : vs.length ≤ i := by omega
    rw [List.getElem?_append_right hj] at e1
    rw [List.getElem?_append_right (by rw [← h.1]; exact hj), ← h.1] at e2
    exact k.2 _ v y e1 e2
theorem Its.go [r : ∀ x, Rep (R x)] (h : Its R X H vs xs) (g : ∀ a o, ¬ X a → H a = some o → ¬ Y a ∧ H1 a = some o) : Its R Y H1 vs xs := ⟨h.1, fun i u x e1 e2 => (r x).go g (h.2 i u x e1 e2)⟩
theorem Its.up [r : ∀ x, Rep (R x)] (h : Its R X H vs xs) (l : Lt X H Y H1) : Its R Y H1 vs xs := h.go l.go
theorem Its.sm [r : ∀ x, Rep (R x)] (h : Its R X H vs xs) (s : Same H H1) : Its R X H1 vs xs := h.go fun a o n e => ⟨n, s a o e⟩
theorem Its.dn [r : ∀ x, Rep (R x)] (h : Its R Y H vs xs) (l : ∀ a, X a → Y a) : Its R X H vs xs := h.go fun a o n e => ⟨fun z => n (l a z), e⟩
theorem Its.get (h : Its R X H vs xs) {i : Nat} {x : α} (e : xs[i]? = some x) : ∃ u, vs[i]? = some u ∧ R x X H u := by
  have hi : i < vs.length := by rw [h.1]; exact (List.getElem?_eq_some_iff.mp e).1
  exact ⟨vs[i], List.getElem?_eq_getElem hi, h.2 i _ x (List.getElem?_eq_getElem hi) e⟩
theorem oL.its {v : V} (h : oL R xs X H v) : ∃ (a : Addr) (vs : List V), v = .ref a ∧ ¬ X a ∧ H a = some (.lst vs) ∧ Its R X H vs xs ∧ xs.length ≤ 5000 := by
  obtain ⟨a, vs, e, n, h, l, b, f⟩ := h
  exact ⟨a, vs, e, n, h, ⟨l, f⟩, b⟩
theorem oL.mk {a : Addr} (n : ¬ X a) (h : H a = some (.lst vs)) (i : Its R X H vs xs) (b : xs.length ≤ 5000) : oL R xs X H (.ref a) := ⟨a, vs, rfl, n, h, i.1, b, i.2⟩
theorem line5 {n : Nat} (h : n ≤ 5000) : n < sizeLine := Nat.lt_of_le_of_lt h (by decide)
/-- a flat list's items -/
theorem Its.flat {f : α → V} (h : Its (fun x => oV (f x)) X H vs xs) : vs = xs.map f := by
  apply List.ext_getElem?
  intro i
  rw [List.getElem?_map]
  cases e : xs[i]? with
  | none =>
    have : vs.length ≤ i := by rw [h.1]; exact List.getElem?_eq_none_iff.mp e
    rw [List.getElem?_eq_none_iff.mpr this]; rfl
  | some x =>
    obtain ⟨u, e1, r⟩ := h.get e
    have r' : u = f x := r
    rw [e1, r']; rfl
theorem Its.of_flat {f : α → V} : Its (fun x => oV (f x)) X H (xs.map f) xs := ⟨by simp, fun i u x e1 e2 => by
  rw [List.getElem?_map, e2] at e1
  have : some (f x) = some u := e1
  exact (Option.some.inj this).symm⟩
/-- a new list -/
def EvN (te : TE) (σ : L2.St) (X : AX) (H : Hp) (R : α → Ob) (xs : List α) : Prop := ∀ Y H1, Lt X H Y H1 → ∀ Q : VK, (∀ H2 l vs, Same H1 H2 → H1 l = none → H2 l = some (.lst vs) → Its R (hid Y l) H2 vs xs → Q (.ref l) H2) → te σ H1 Q
theorem hid_wk {Y : AX} {l : Addr} : ∀ a, Y a → hid Y l a := fun _ h => .inl h
theorem Lt.fresh {l : Addr} {vs : List V} (k : Lt X H Y H1) {H2 : Hp} (s : Same H1 H2) (n : H1 l = none) (e : H2 l = some (.lst vs)) : Lt X H (hid Y l) H2 := by
  refine ⟨fun c u h q => ?_, fun c h => ?_, fun c h => .inl (k.wk c h)⟩
  · obtain ⟨h1, h2⟩ := k.go c u h q
    exact ⟨fun z => z.elim h1 (ne_of_none h2 n), s c u h2⟩
  · rcases h with h | h
    · exact (k.kn.same s) c h
    · rw [h, e]
      exact fun z => nomatch z
theorem notKn {l : Addr} (k : Kn Y H1) (n : H1 l = none) : ¬ Y l := fun z => k l z n
theorem EvN.ev {te : TE} [∀ x, Rep (R x)] (h : EvN te σ X H R xs) (b : xs.length ≤ 5000) : EvP te σ X H (oL R xs) := fun Y H1 l Q q =>
  h Y H1 l Q fun H2 p vs s n e i => q H2 (.ref p) s (oL.mk (notKn l.kn n) e (i.dn hid_wk) b)
theorem EvN.up {te : TE} (h : EvN te σ X H R xs) (l : Lt X H Y H1) : EvN te σ Y H1 R xs := fun Z H2 k Q q => h Z H2 (l.trans k) Q q
theorem EvN.eq {te : TE} (h : EvN te σ X H R xs) (e : xs = ys) : EvN te σ X H R ys := e ▸ h
/-- a new object at l, hidden from then on -/
theorem Its.new [r : ∀ x, Rep (R x)] {l : Addr} {o : HO} (h : Its R Y H1 vs xs) (k : Kn Y H1) (n : H1 l = none) : Its R (hid Y l) (upd H1 l o) vs xs := h.up ((Lt.refl k).hide n)
theorem en_nil : EvN (tLst tNil) σ X H R ([] : List α) := fun Y H1 l Q q => ⟨Nat.zero_le _, fun p n => q _ p [] (same_new n) n upd_same Its.nil⟩
theorem en_one {te : TE} {x : α} [∀ x, Rep (R x)] (h : EvP te σ X H (R x)) : EvN (tLst (tCons te tNil)) σ X H R [x] := fun Y H1 l Q q =>
  h Y H1 l _ fun H2 v s o => ⟨(by decide : 1 ≤ sizeLine), fun p n => q _ p [v] (s.trans (same_new n)) (by
    cases e : H1 p with
    | none => rfl
    | some u => rw [s p u e] at n; cases n) upd_same (Its.new (Its.nil.snoc o) (l.kn.same s) n)⟩
theorem en_two {te tu : TE} {x y : α} [∀ x, Rep (R x)] (h : EvP te σ X H (R x)) (h2 : EvP tu σ X H (R y)) : EvN (tLst (tCons te (tCons tu tNil))) σ X H R [x, y] := fun Y H1 l Q q =>
  h Y H1 l _ fun H2 v s o => h2 Y H2 (l.same s) _ fun H3 w s2 o2 => ⟨(by decide : 2 ≤ sizeLine), fun p n => q _ p [v, w] ((s.trans s2).trans (same_new n)) ((s.trans s2).free n) upd_same
    (Its.new ((Its.nil.snoc (Still.rsm s2 o)).snoc o2) ((l.kn.same s).same s2) n)⟩
/-- list(xs) -/
theorem en_list {K : PySem.W.Frag} {ta : TE} [∀ x, Rep (R x)] (h : EvP ta σ X H (oL R xs)) : EvN (tCB (rListK K) (tCons ta tNil)) σ X H R xs := fun Y H1 l Q q =>
  h Y H1 l _ fun H2 v s o => by
    obtain ⟨a, vs, rfl, n, e, i, b⟩ := o.its
    exact ⟨a, vs, rfl, .inl (.inl (.inl e)), fun p np => q _ p vs (s.trans (same_new np)) (s.free np) upd_same (i.new (l.kn.same s) np)⟩
/-- one + other -/
theorem en_cat {ta tb : TE} {ys : List α} [∀ x, Rep (R x)] (h : EvP ta σ X H (oL R xs)) (h2 : EvP tb σ X H (oL R ys)) : EvN (tOp rCat ta tb) σ X H R (xs ++ ys) := fun Y H1 l Q q =>
  h Y H1 l _ fun H2 v s o => h2 Y H2 (l.same s) _ fun H3 w s2 o2 => by
    obtain ⟨a, vs, rfl, n, e, i, b⟩ := (Still.rsm s2 o).its
    obtain ⟨a2, vs2, rfl, n2, e2, i2, b2⟩ := o2.its
    have hl : vs.length + vs2.length ≤ sizeLine := by
      rw [i.1, i2.1]
      exact Nat.le_trans (Nat.add_le_add b b2) (by decide)
    exact ⟨a, a2, vs, vs2, rfl, rfl, e, e2, hl, fun p np => q _ p _ ((s.trans s2).trans (same_new np)) ((s.trans s2).free np) upd_same ((i.append i2).new ((l.kn.same s).same s2) np)⟩
theorem rep_flat (u : V) : ∀ n : Nat, (List.replicate n [u]).flatten = List.replicate n u
  | 0 => rfl
  | k + 1 => by rw [List.replicate_succ, List.flatten_cons, rep_flat u k]; rfl
/-- [z] * n -/
theorem en_rep {ta tb : TE} {x : α} {n : Nat} [∀ x, Rep (R x)] (h : EvP ta σ X H (oL R [x])) (h2 : EvP tb σ X H (oN n)) (hn : n ≤ 5000) : EvN (tOp rRep ta tb) σ X H R (List.replicate n x) := fun Y H1 l Q q =>
  h Y H1 l _ fun H2 v s o => h2 Y H2 (l.same s) _ fun H3 w s2 o2 => by
    obtain ⟨a, vs, rfl, _, e, i, b⟩ := (Still.rsm s2 o).its
    have e2 : w = .int (n : Int) := o2
    subst e2
    obtain ⟨u, e3, r⟩ := i.get (show [x][0]? = some x from rfl)
    have hv : vs = [u] := by
      have h1 := i.1
      match vs, h1, e3 with
      | [z], _, e3 => rw [Option.some.inj e3]
    subst hv
    refine ⟨a, (n : Int), [u], rfl, rfl, e, by omega, by omega, ?_, fun p np => q _ p _ ((s.trans s2).trans (same_new np)) ((s.trans s2).free np) upd_same ?_⟩
    · show 1 * (n : Int).toNat ≤ sizeLine
      rw [Nat.one_mul, Int.toNat_natCast]
      exact Nat.le_trans hn (by decide)
    · have hf : (List.replicate (n : Int).toNat [u]).flatten = List.replicate n u := by
        rw [Int.toNat_natCast]
        exact rep_flat u n
      have it : Its R Y H3 (List.replicate n u) (List.replicate n x) := ⟨by simp, fun j u' x' e1 e2 => by
        have h1 := List.getElem?_eq_some_iff.mp e1
        have h2 := List.getElem?_eq_some_iff.mp e2
        obtain ⟨_, h1⟩ := h1
        obtain ⟨_, h2⟩ := h2
        rw [List.getElem_replicate] at h1 h2
        subst h1 h2
        exact r⟩
      first
        | (rw [hf]; exact it.new ((l.kn.same s).same s2) np)
        | exact it.new ((l.kn.same s).same s2) np
/-- len(xs) -/
theorem ev_len {K : PySem.W.Frag} {ta : TE} (h : EvP ta σ X H (oL R xs)) : EvP (tCB (rLenK K) (tCons ta tNil)) σ X H (oN xs.length) := fun Y H1 l Q q =>
  h Y H1 l _ fun H2 v s o => by
    obtain ⟨a, vs, rfl, n, e, i, b⟩ := o.its
    exact ⟨a, vs, rfl, .inl (.inl (.inl e)), q H2 _ s (by show V.int _ = V.int _; rw [i.1])⟩
/-- xs[i] -/
theorem ev_ixI {K : PySem.W.Frag} {ta tb : TE} {j : Int} {x : α} [∀ x, Rep (R x)] (h : EvP ta σ X H (oL R xs)) (hb : EvP tb σ X H (oI j)) (hx : ∀ (vs : List V) u, vs.length = xs.length → (∀ (i : Nat), xs[i]? = some x → vs[i]? = some u → atI vs j = some u) ) (i : Nat) (hi : xs[i]? = some x) : EvP (tOp (rIxL K) ta tb) σ X H (R x) :=
  ev_op h hb fun Y H1 v w l o e Q q => by
    obtain ⟨a, vs, rfl, n, e1, it, b⟩ := o.its
    have ew : w = .int j := e
    subst ew
    obtain ⟨u, e3, r⟩ := it.get hi
    exact ⟨a, vs, j, u, rfl, rfl, .inl (.inl e1), hx vs u it.1 i hi e3, q H1 u (Same.refl _) r⟩
theorem ev_ix {K : PySem.W.Frag} {ta tb : TE} {i : Nat} {x : α} [∀ x, Rep (R x)] (h : EvP ta σ X H (oL R xs)) (hb : EvP tb σ X H (oN i)) (hi : xs[i]? = some x) : EvP (tOp (rIxL K) ta tb) σ X H (R x) :=
  ev_op h hb fun Y H1 v w l o e Q q => by
    obtain ⟨a, vs, rfl, n, e1, it, b⟩ := o.its
    have ew : w = .int (i : Int) := e
    subst ew
    obtain ⟨u, e3, r⟩ := it.get hi
    exact ⟨a, vs, i, u, rfl, rfl, .inl (.inl e1), atI_nat e3, q H1 u (Same.refl _) r⟩
/-! iterators -/
structure Src (J : It) (X : AX) (H : Hp) (R : α → Ob) (xs : List α) : Prop where
  go : ∀ i Y H1, Lt X H Y H1 → i < xs.length → J.go i H1
  stop : ∀ Y H1, Lt X H Y H1 → J.stop xs.length H1
  yld : ∀ i x Y H1 v H2, Lt X H Y H1 → xs[i]? = some x → J.yld i H1 v H2 → Same H1 H2 ∧ R x Y H2 v
def EvI (wi : TI) (σ : L2.St) (X : AX) (H : Hp) (R : α → Ob) (xs : List α) : Prop := ∀ Y H1, Lt X H Y H1 → ∀ Q : It → Hp → Prop, (∀ J H2, Same H1 H2 → Src J Y H2 R xs → Q J H2) → wi σ H1 Q
theorem EvI.up {wi : TI} (h : EvI wi σ X H R xs) (l : Lt X H Y H1) : EvI wi σ Y H1 R xs := fun Z H2 k Q q => h Z H2 (l.trans k) Q q
theorem EvI.eq {wi : TI} (h : EvI wi σ X H R xs) (e : xs = ys) : EvI wi σ X H R ys := e ▸ h
theorem src_list {K : PySem.W.Frag} {a : Addr} [∀ x, Rep (R x)] (n : ¬ X a) (e : H a = some (.lst vs)) (it : Its R X H vs xs) : Src (Itl K a) X H R xs := by
  refine ⟨fun i Y H1 l hi => ?_, fun Y H1 l => ?_, fun i x Y H1 v H2 l hx y => ?_⟩
  · have hv : i < vs.length := by rw [it.1]; exact hi
    exact ⟨vs, vs[i], .inl (.inl (l.go a _ n e).2), List.getElem?_eq_getElem hv⟩
  · exact ⟨vs, .inl (.inl (l.go a _ n e).2), by rw [it.1]; exact Nat.le_refl _⟩
  · obtain ⟨rfl, f⟩ := y
    have e2 := f vs (.inl (.inl (l.go a _ n e).2))
    exact ⟨Same.refl _, (it.up l).2 i v x e2 hx⟩
theorem ei_list {K : PySem.W.Frag} {ta : TE} [∀ x, Rep (R x)] (h : EvP ta σ X H (oL R xs)) : EvI (iList K ta) σ X H R xs := fun Y H1 l Q q =>
  h Y H1 l _ fun H2 v s o => by
    obtain ⟨a, vs, rfl, n, e, i, b⟩ := o.its
    exact ⟨a, rfl, ⟨vs, .inl (.inl e)⟩, q _ H2 s (src_list n e i)⟩
def upto (n : Nat) : List Nat := List.range n
theorem src_range {lo : Int} {n : Nat} : Src (Itr lo n) X H (fun k : Nat => oV (.int (lo + k))) (List.range n) := by
  refine ⟨fun i Y H1 l hi => ?_, fun Y H1 l => ?_, fun i x Y H1 v H2 l hx y => ?_⟩
  · rw [List.length_range] at hi
    exact hi
  · rw [List.length_range]
    exact Nat.le_refl _
  · obtain ⟨rfl, rfl⟩ := y
    obtain ⟨h1, h2⟩ := List.getElem?_eq_some_iff.mp hx
    rw [List.getElem_range] at h2
    subst h2
    exact ⟨Same.refl _, rfl⟩
theorem ei_range {ta : TE} {n : Nat} (h : EvP ta σ X H (oN n)) (hn : n ≤ 1000000) : EvI (iRng1 (tCons ta tNil)) σ X H (fun k : Nat => oN k) (List.range n) := fun Y H1 l Q q =>
  h Y H1 l _ fun H2 v s o => by
    have e : v = .int (n : Int) := o
    subst e
    refine ⟨(n : Int), rfl, by omega, by omega, ?_⟩
    rw [Int.toNat_natCast]
    have z := src_range (X := Y) (H := H2) (lo := 0) (n := n)
    refine q _ H2 s ⟨z.go, z.stop, fun i x Z H3 v H4 k hx y => ?_⟩
    obtain ⟨s2, e2⟩ := z.yld i x Z H3 v H4 k hx y
    refine ⟨s2, ?_⟩
    have e3 : v = .int (0 + (x : Int)) := e2
    rw [Int.zero_add] at e3
    exact e3
theorem ei_range2 {ta tb : TE} {m n : Nat} (h : EvP ta σ X H (oN m)) (h2 : EvP tb σ X H (oN n)) (hm : m ≤ n) (hn : n ≤ 1000000) : EvI (iRng2 (tCons ta (tCons tb tNil))) σ X H (fun k : Nat => oN (m + k)) (List.range (n - m)) := fun Y H1 l Q q =>
  h Y H1 l _ fun H2 v s o => h2 Y H2 (l.same s) _ fun H3 w s2 o2 => by
    have e : v = .int (m : Int) := o
    have e2 : w = .int (n : Int) := o2
    subst e e2
    refine ⟨(m : Int), (n : Int), rfl, by omega, ?_⟩
    have en : ((n : Int) - (m : Int)).toNat = n - m := by omega
    rw [en]
    have z := src_range (X := Y) (H := H3) (lo := (m : Int)) (n := n - m)
    refine q _ H3 (s.trans s2) ⟨z.go, z.stop, fun i x Z H3 v H4 k hx y => ?_⟩
    obtain ⟨s2, e2⟩ := z.yld i x Z H3 v H4 k hx y
    refine ⟨s2, ?_⟩
    have e3 : v = .int ((m : Int) + (x : Int)) := e2
    rw [e3]
    show V.int _ = V.int _
    rw [Int.natCast_add]
/-- zip of two lists of one length -/
theorem ei_zip {K : PySem.W.Frag} {ta tb : TE} {ys : List β} [∀ x, Rep (R x)] [∀ x, Rep (R' x)] (h : EvP ta σ X H (oL R xs)) (h2 : EvP tb σ X H (oL R' ys)) (hl : xs.length = ys.length) :
    EvI (iZip K (tCons ta (tCons tb tNil))) σ X H (fun p : α × β => oP (R p.1) (R' p.2)) (xs.zip ys) := fun Y H1 l Q q =>
  h Y H1 l _ fun H2 v s o => h2 Y H2 (l.same s) _ fun H3 w s2 o2 => by
    obtain ⟨a, vs, rfl, n, e, it, b⟩ := (Still.rsm s2 o).its
    obtain ⟨a2, vs2, rfl, n2, e2, it2, b2⟩ := o2.its
    have hz : (xs.zip ys).length = xs.length := by rw [List.length_zip]; omega
    refine ⟨a, a2, vs, vs2, rfl, .inl (.inl e), .inl (.inl e2), q _ H3 (s.trans s2) ⟨fun i Z H4 k hi => ?_, fun Z H4 k => ?_, fun i x Z H4 v H5 k hx y => ?_⟩⟩
    · rw [hz] at hi
      have h1 : i < vs.length := by rw [it.1]; exact hi
      have h2 : i < vs2.length := by rw [it2.1, ← hl]; exact hi
      exact ⟨vs, vs2, _, _, .inl (.inl (k.go a _ n e).2), .inl (.inl (k.go a2 _ n2 e2).2), List.getElem?_eq_getElem h1, List.getElem?_eq_getElem h2⟩
    · exact ⟨vs, vs2, .inl (.inl (k.go a _ n e).2), .inl (.inl (k.go a2 _ n2 e2).2), .inl (by rw [it.1, hz]; exact Nat.le_refl _)⟩
    · obtain ⟨T, x1, x2, rfl, nT, rfl, f1, f2⟩ := y
      have g1 := f1 vs (.inl (.inl (k.go a _ n e).2))
      have g2 := f2 vs2 (.inl (.inl (k.go a2 _ n2 e2).2))
      rw [List.getElem?_zip_eq_some] at hx
      have sT : Same H4 (upd H4 T (.tup [x1, x2])) := same_new nT
      exact ⟨sT, T, x1, x2, rfl, notKn k.kn nT, upd_same, Still.rsm sT ((it.up k).2 i x1 x.1 g1 hx.1), Still.rsm sT ((it2.up k).2 i x2 x.2 g2 hx.2)⟩
def numd (xs : List α) : List (Nat × α) := (List.range xs.length).zip xs
theorem ei_enum {K : PySem.W.Frag} {ta : TE} [∀ x, Rep (R x)] (h : EvP ta σ X H (oL R xs)) : EvI (iEnum K (tCons ta tNil)) σ X H (fun p : Nat × α => oP (oN p.1) (R p.2)) (numd xs) := fun Y H1 l Q q =>
  h Y H1 l _ fun H2 v s o => by
    obtain ⟨a, vs, rfl, n, e, it, b⟩ := o.its
    have hz : (numd xs).length = xs.length := by unfold numd; rw [List.length_zip, List.length_range]; omega
    refine ⟨a, vs, rfl, .inl (.inl e), q _ H2 s ⟨fun i Z H4 k hi => ?_, fun Z H4 k => ?_, fun i x Z H4 v H5 k hx y => ?_⟩⟩
    · rw [hz] at hi
      have h1 : i < vs.length := by rw [it.1]; exact hi
      exact ⟨vs, _, .inl (.inl (k.go a _ n e).2), List.getElem?_eq_getElem h1⟩
    · exact ⟨vs, .inl (.inl (k.go a _ n e).2), by rw [it.1, hz]; exact Nat.le_refl _⟩
    · obtain ⟨T, x1, rfl, nT, rfl, f1⟩ := y
      have g1 := f1 vs (.inl (.inl (k.go a _ n e).2))
      unfold numd at hx
      rw [List.getElem?_zip_eq_some] at hx
      have sT : Same H4 (upd H4 T (.tup [.int (i : Nat), x1])) := same_new nT
      have hi : x.1 = i := by
        obtain ⟨h1, h2⟩ := List.getElem?_eq_some_iff.mp hx.1
        rw [List.getElem_range] at h2
        exact h2.symm
      refine ⟨sT, T, .int (i : Nat), x1, rfl, notKn k.kn nT, upd_same, ?_, Still.rsm sT ((it.up k).2 i x1 x.2 g1 hx.2)⟩
      show V.int _ = V.int _
      rw [hi]
/-! a comprehension -/
theorem en_lc {wi : TI} {g : TG} {tt : TT} {te : TE} {ss : List Nat} [∀ x, Rep (R x)] [∀ y, Rep (R' y)] (f : α → β) (t : α → Bool) (hi : EvI wi σ X H R xs) (hb : xs.length ≤ 5000)
    (turn : ∀ x, x ∈ xs → ∀ Y H1 v, Lt X H Y H1 → R x Y H1 v → ∃ σ2, (∀ k : L2.St → Hp → Prop, k σ2 H1 → g v (wipe σ ss) H1 k) ∧ wipe σ2 ss = wipe σ ss ∧ EvT tt σ2 Y H1 (t x) ∧ (t x = true → EvP te σ2 Y H1 (R' (f x)))) :
    EvN (tLc wi g tt te ss) σ X H R' ((xs.filter t).map f) := fun Y H1 l Q q =>
  hi Y H1 l _ fun J H2 s z D hD => by
    have hl2 : Lt X H Y H2 := l.same s
    refine ⟨fun i m H' => m = xs.length - i ∧ i ≤ xs.length ∧ Lt Y H2 (hid Y D) H' ∧ Same H2 H' ∧ ∃ acc, H' D = some (.lst acc) ∧ Its R' (hid Y D) H' acc (((xs.take i).filter t).map f),
      ⟨xs.length, rfl, Nat.zero_le _, (Lt.refl hl2.kn).hide hD, same_new hD, [], upd_same, by rw [List.take_zero]; exact Its.nil⟩, ?_⟩
    rintro i m H' ⟨rfl, hle, lt, sa, acc, eD, it⟩
    by_cases hlt : i < xs.length
    · refine .inr ⟨z.go i _ _ lt hlt, fun H'' => Lt Y H2 (hid Y D) H'' ∧ Same H2 H'' ∧ ∃ acc, H'' D = some (.lst acc) ∧ Its R' (hid Y D) H'' acc (((xs.take (i + 1)).filter t).map f),
        fun H'' h => ⟨xs.length - (i + 1), by omega, rfl, hlt, h⟩, fun v H3 y => ?_⟩
      have hx : xs[i]? = some xs[i] := List.getElem?_eq_getElem hlt
      obtain ⟨s3, rv⟩ := z.yld i xs[i] _ _ v H3 lt hx y
      have lt3 := lt.same s3
      obtain ⟨σ2, hg, hw, ht, he⟩ := turn xs[i] (List.getElem_mem hlt) (hid Y D) H3 v (hl2.trans lt3) rv
      have ek : (xs.take (i + 1)).filter t = (xs.take i).filter t ++ if t xs[i] = true then [xs[i]] else [] := by
        rw [List.take_add_one, hx, List.filter_append]
        congr 1
        cases h : t xs[i] <;> simp [h]
      refine hg _ ⟨hw, ht _ _ (Lt.refl lt3.kn) _ fun H4 s4 => ?_⟩
      have lt4 := lt3.same s4
      have eD4 : H4 D = some (.lst acc) := s4 _ _ (s3 _ _ eD)
      cases htx : t xs[i] with
      | false =>
        rw [if_neg (by simp)]
        rw [htx, if_neg (by simp), List.append_nil] at ek
        exact ⟨lt4, (sa.trans s3).trans s4, acc, eD4, by rw [ek]; exact (it.sm s3).sm s4⟩
      | true =>
        rw [if_pos rfl]
        rw [htx, if_pos rfl] at ek
        refine (he htx) _ _ ((Lt.refl lt3.kn).same s4) _ fun H5 u s5 ou => ⟨acc, s5 _ _ eD4, ?_, (lt4.same s5).write (.inr rfl), ?_, acc ++ [u], upd_same, ?_⟩
        · refine line5 ?_
          rw [it.1, List.length_map]
          exact Nat.le_trans (Nat.le_trans (List.length_filter_le _ _) (by rw [List.length_take]; omega)) hb
        · intro b o e
          have e5 := s5 _ _ (s4 _ _ (s3 _ _ (sa b o e)))
          rw [upd_ne (ne_of_none e hD)]
          exact e5
        · rw [ek, List.map_append]
          have w5 : Lt (hid Y D) H5 (hid Y D) (upd H5 D (.lst (acc ++ [u]))) := (Lt.refl (lt4.same s5).kn).write (.inr rfl)
          exact Its.snoc ((((it.sm s3).sm s4).sm s5).up w5) (Still.up w5 ou)
    · have ei : i = xs.length := by omega
      subst ei
      rw [List.take_length] at it
      exact .inl ⟨z.stop _ _ lt, q H' D acc (s.trans sa) (s.free hD) eD it⟩
/-- .. without a test -/
theorem en_map {wi : TI} {g : TG} {te : TE} {ss : List Nat} [∀ x, Rep (R x)] [∀ y, Rep (R' y)] (f : α → β) (hi : EvI wi σ X H R xs) (hb : xs.length ≤ 5000)
    (turn : ∀ x, x ∈ xs → ∀ Y H1 v, Lt X H Y H1 → R x Y H1 v → ∃ σ2, (∀ k : L2.St → Hp → Prop, k σ2 H1 → g v (wipe σ ss) H1 k) ∧ wipe σ2 ss = wipe σ ss ∧ EvP te σ2 Y H1 (R' (f x))) :
    EvN (tLc wi g tYes te ss) σ X H R' (xs.map f) := by
  have h := en_lc (σ := σ) (g := g) (tt := tYes) (te := te) (ss := ss) (R' := R') f (fun _ => true) hi hb fun x hx Y H1 v l r => by
    obtain ⟨σ2, h1, h2, h3⟩ := turn x hx Y H1 v l r
    exact ⟨σ2, h1, h2, et_yes, fun _ => h3⟩
  rw [show xs.filter (fun _ => true) = xs from List.filter_eq_self.mpr fun _ _ => rfl] at h
  exact h
/-- one name as the target -/
theorem tg1 {i : Nat} {v : V} : ∀ k : L2.St → Hp → Prop, k (σ.set i (some v)) H → gName i v σ H k := fun k h => h
/-- two names, of a pair -/
theorem tg2 {K : PySem.W.Frag} {i j : Nat} {v : V} {A B : Ob} (h : oP A B X H v) : ∃ x y, A X H x ∧ B X H y ∧ ∀ k : L2.St → Hp → Prop, k ((σ.set i (some x)).set j (some y)) H → gTup K 2 (gCons (gName i) (gCons (gName j) gNil)) v σ H k := by
  obtain ⟨a, x, y, rfl, n, e, p, q⟩ := h
  exact ⟨x, y, p, q, fun k h => ⟨a, [x, y], rfl, .inl (.inl e), rfl, x, [y], rfl, y, [], rfl, rfl, h⟩⟩
end
end Still

set_option Elab.async false
set_option linter.all false
set_option maxRecDepth 100000
set_option maxHeartbeats 4000000
namespace Still
open PySem PySem.Spec PyProof.Rows L2
/-! statements, arithmetic, defs -/
abbrev oF {q : Pm} (a : Fq q) : Ob := oI (vl a)
abbrev oRow {q : Pm} (r : List (Fq q)) : Ob := oL oF r
abbrev oRows {q : Pm} (m : List (List (Fq q))) : Ob := oL oRow m
abbrev oTabs {q : Pm} (m : List (List (List (Fq q)))) : Ob := oL oRows m
abbrev oCrew {q : Pm} (n : Nat) (m : List (List (List (Fq q)))) : Ob := oP3 (oN q.n) (oN n) (oTabs m)
section
variable {α β : Type} {R : α → Ob} {X Y : AX} {H H1 : Hp} {σ : L2.St} {ta tb te : TE} {tt : TT} {O A B : Ob} {t u : TS} {D : Ends} {xs : List α}
theorem s_set {i : Nat} (k : Kn X H) (h : EvP te σ X H O) (next : ∀ H1 v, Same H H1 → O X H1 v → u D (σ.set i (some v)) H1) : tSeq (tAsg te (gName i)) u D σ H := h X H (Lt.refl k) _ next
theorem s_set1 {i : Nat} (k : Kn X H) (h : EvP te σ X H O) (next : ∀ H1 v, Same H H1 → O X H1 v → D.nx (σ.set i (some v)) H1) : tAsg te (gName i) D σ H := h X H (Lt.refl k) _ next
/-- a new list that will be changed: it is hidden from here on -/
theorem s_new {i : Nat} (k : Kn X H) (h : EvN te σ X H R xs) (next : ∀ H1 l vs, Same H H1 → H l = none → H1 l = some (.lst vs) → Its R (hid X l) H1 vs xs → Lt X H (hid X l) H1 → u D (σ.set i (some (.ref l))) H1) : tSeq (tAsg te (gName i)) u D σ H :=
  h X H (Lt.refl k) _ fun H1 l vs s n e it => next H1 l vs s n e it ((Lt.refl k).fresh s n e)
theorem s_ret (k : Kn X H) (h : EvP te σ X H O) (next : ∀ H1 v, Same H H1 → O X H1 v → D.rt v H1) : tRet te D σ H := h X H (Lt.refl k) _ next
theorem s_if {b : Bool} {v : TS} (k : Kn X H) (h : EvT tt σ X H b) (yes : b = true → ∀ H1, Same H H1 → t { D with nx := v D } σ H1) (no : b = false → ∀ H1, Same H H1 → u { D with nx := v D } σ H1) : tSeq (tIfS tt t u) v D σ H :=
  h X H (Lt.refl k) _ fun H1 s => by
    cases b with
    | true => exact yes rfl H1 s
    | false => exact no rfl H1 s
theorem s_if1 {b : Bool} (k : Kn X H) (h : EvT tt σ X H b) (yes : b = true → ∀ H1, Same H H1 → t D σ H1) (no : b = false → ∀ H1, Same H H1 → u D σ H1) : tIfS tt t u D σ H :=
  h X H (Lt.refl k) _ fun H1 s => by
    cases b with
    | true => exact yes rfl H1 s
    | false => exact no rfl H1 s
/-- a loop -/
theorem s_for1 {wi : TI} {g : TG} (k : Kn X H) (hi : EvI wi σ X H R xs) (main : ∀ H1, Same H H1 → Lt X H X H1 → ∃ Pv : Nat → L2.St → Hp → Prop, Pv 0 σ H1 ∧
    (∀ i x σ1 H2 H3 v, xs[i]? = some x → Lt X H1 X H2 → Pv i σ1 H2 → Same H2 H3 → R x X H3 v → g v σ1 H3 fun σ2 H4 => t { D with nx := fun σ' H' => Pv (i + 1) σ' H' ∧ Lt X H1 X H', ct := fun σ' H' => Pv (i + 1) σ' H' ∧ Lt X H1 X H', bk := D.nx } σ2 H4) ∧
    ∀ σ1 H2, Lt X H1 X H2 → Pv xs.length σ1 H2 → D.nx σ1 H2) : tFor wi g t D σ H :=
  hi X H (Lt.refl k) _ fun J H1 s z => by
    have l1 : Lt X H X H1 := Lt.of k s
    obtain ⟨Pv, h0, turn, done⟩ := main H1 s l1
    refine ⟨fun i m σ1 H2 => m = xs.length - i ∧ i ≤ xs.length ∧ Pv i σ1 H2 ∧ Lt X H1 X H2, ⟨xs.length, rfl, Nat.zero_le _, h0, Lt.refl l1.kn⟩, ?_⟩
    rintro i m σ1 H2 ⟨rfl, hle, p, l3⟩
    by_cases hlt : i < xs.length
    · refine .inr ⟨z.go i _ _ l3 hlt, fun σ' H' => Pv (i + 1) σ' H' ∧ Lt X H1 X H' , fun σ' H' h => ⟨xs.length - (i + 1), by omega, rfl, hlt, h⟩, fun v H3 y => ?_⟩
      have hx : xs[i]? = some xs[i] := List.getElem?_eq_getElem hlt
      obtain ⟨s3, rv⟩ := z.yld i xs[i] _ _ v H3 l3 hx y
      exact turn i _ σ1 H2 H3 v hx l3 p s3 rv
    · have e : i = xs.length := by omega
      subst e
      exact .inl ⟨z.stop _ _ l3, done σ1 H2 l3 p⟩
theorem s_for {wi : TI} {g : TG} (k : Kn X H) (hi : EvI wi σ X H R xs) (main : ∀ H1, Same H H1 → Lt X H X H1 → ∃ Pv : Nat → L2.St → Hp → Prop, Pv 0 σ H1 ∧
    (∀ i x σ1 H2 H3 v, xs[i]? = some x → Lt X H1 X H2 → Pv i σ1 H2 → Same H2 H3 → R x X H3 v → g v σ1 H3 fun σ2 H4 => t { D with nx := fun σ' H' => Pv (i + 1) σ' H' ∧ Lt X H1 X H', ct := fun σ' H' => Pv (i + 1) σ' H' ∧ Lt X H1 X H', bk := u D } σ2 H4) ∧
    ∀ σ1 H2, Lt X H1 X H2 → Pv xs.length σ1 H2 → u D σ1 H2) : tSeq (tFor wi g t) u D σ H := s_for1 (D := { D with nx := u D }) k hi main
/-- append -/
theorem s_append {K : PySem.W.Frag} {i : Nat} {l : Addr} {acc : List V} (k : Kn X H) (e : σ[i]? = some (some (.ref l))) (hl : H l = some (.lst acc)) (hn : acc.length < 5000) (h : EvP te σ X H O)
    (next : ∀ H1 v, Same H H1 → O X H1 v → D.nx σ (upd H1 l (.lst (acc ++ [v])))) : tDrop (tBM K "list" rAppend (tVar i) (tCons te tNil)) D σ H :=
  ⟨.ref l, e, .inl ⟨rfl, _, .inl (.inl hl)⟩, h X H (Lt.refl k) _ fun H1 v s o => ⟨l, acc, v, rfl, rfl, s _ _ hl, line5 (by omega), next H1 v s o⟩⟩
/-- o[i] = e -/
theorem s_put {j : Nat} {i : Nat} {l : Addr} {acc : List V} (k : Kn X H) (e : σ[i]? = some (some (.ref l))) (hl : H l = some (.lst acc)) (hj : j < acc.length) (h : EvP te σ X H O) [Rep O] (hi : EvP tb σ X H (oN j))
    (next : ∀ H1 v, Same H H1 → O X H1 v → D.nx σ (upd H1 l (.lst (acc.set j v)))) : tAsg te (gSub (tVar i) tb rSetL) D σ H :=
  h X H (Lt.refl k) _ fun H1 v s o => ⟨.ref l, e, hi X H1 (Lt.of k s) _ fun H2 w s2 o2 => by
    have ew : w = .int (j : Int) := o2
    subst ew
    refine ⟨l, acc, j, j, rfl, rfl, s2 _ _ (s _ _ hl), ?_, next H2 v (s.trans s2) (rsm s2 o)⟩
    unfold ixN
    rw [if_pos (by omega), if_pos (by omega), Int.toNat_natCast]⟩
theorem s_aug {i : Nat} {f : Int → Int → Int} {a b : Int} (k : Kn X H) (e : σ[i]? = some (some (.int a))) (h : EvP te σ X H (oI b)) (next : ∀ H1, Same H H1 → D.nx (σ.set i (some (.int (f a b)))) H1) : tAug i te (ipI f) D σ H :=
  ⟨.int a, e, h X H (Lt.refl k) _ fun H1 v s o => by
    have ev : v = .int b := o
    subst ev
    exact ⟨a, b, rfl, rfl, next H1 s⟩⟩
end
section
variable {X : AX} {H : Hp} {σ : L2.St} {ta tb te : TE} {i j : Int} {n : Nat}
/-! arithmetic -/
theorem ev_int : EvP (tC (.int i)) σ X H (oI i) := ev_c
theorem ev_nat : EvP (tC (.int (n : Int))) σ X H (oN n) := ev_c
theorem ev_mod {n : Nat} (ha : EvP ta σ X H (oI i)) (hb : EvP tb σ X H (oN n)) (h : 0 < n) : EvP (tOp (rI (fun _ j => j ≠ 0) fun i j => .int (i.fmod j)) ta tb) σ X H (oI (i % n)) :=
  (ev_I ha hb (by show (n : Int) ≠ 0; omega)).eq (by rw [Int.fmod_eq_emod_of_nonneg _ (by omega)])
theorem ev_modF {q : Pm} {a : Fq q} (ha : EvP ta σ X H (oI i)) (hb : EvP tb σ X H (oN q.n)) (h : i % q.n = vl a) : EvP (tOp (rI (fun _ j => j ≠ 0) fun i j => .int (i.fmod j)) ta tb) σ X H (oF a) :=
  (ev_mod ha hb (by have := q.pos; omega)).eq (by rw [h])
theorem ev_div {n : Nat} (ha : EvP ta σ X H (oI i)) (hb : EvP tb σ X H (oN n)) (h : 0 < n) (h2 : n < 1073741824) : EvP (tOp (rI CDivN fun i j => .int (i.fdiv j)) ta tb) σ X H (oI (i / n)) :=
  (ev_I ha hb ⟨by omega, by omega⟩).eq (by rw [Int.fdiv_eq_ediv_of_nonneg _ (by omega)])
theorem ev_mulL (ha : EvP ta σ X H (oI i)) (hb : EvP tb σ X H (oI j)) (h : -(2 ^ 64) < i ∧ i < 2 ^ 64) : EvP (tOp (rI CMul fun i j => .int (i * j)) ta tb) σ X H (oI (i * j)) := ev_I ha hb (.inl h)
theorem ev_mulR (ha : EvP ta σ X H (oI i)) (hb : EvP tb σ X H (oI j)) (h : -(2 ^ 64) < j ∧ j < 2 ^ 64) : EvP (tOp (rI CMul fun i j => .int (i * j)) ta tb) σ X H (oI (i * j)) := ev_I ha hb (.inr h)
theorem vl_64 {q : Pm} (a : Fq q) : -(2 ^ 64) < vl a ∧ vl a < 2 ^ 64 := by
  have h1 := vl_lo a
  have h2 := vl_hi a
  have h3 := q.pos
  omega
end
/-! defs -/
def Ct (w : World) (K : PySem.W.Frag) (mg : Str → Option Value) (base : Heap) (k : Nat) (x : Str) (sp : Sp) : Prop :=
  ∃ (f : Addr) (fd : FuncData) (ps : List Str), FnOk prg w K mg base CX0 k f fd ps sp ∧ mg x = some (.ref f) ∧ PySem.W.keepIn K (.ref f) = true ∧ Binds K fd ps []
theorem Ct.at {w : World} {K : PySem.W.Frag} {mg : Str → Option Value} {base : Heap} {j k : Nat} {x : Str} {sp : Sp} (c : Ct w K mg base j x sp) (h : j ≤ k) : Ct w K mg base k x sp := by
  obtain ⟨f, fd, ps, F, h1, h2, h3⟩ := c
  exact ⟨f, fd, ps, F.mono h, h1, h2, h3⟩
theorem pe_ct {X : Cx} {k j : Nat} {x : Str} {sp : Sp} {p pos : Pos} {e : Expr} {es : List Expr} {t : TA} (c : Ct X.w X.K X.mg X.base k x sp) (hr : Room j X.A) (hk : k ≤ j) (hg : Gl X x) (ha : PA X (e :: es) t) (hp : X.prog = prg := by rfl)
    (hdb : (x == ("__debug__" : Str)) = false := by decide) (he : starEach (e :: es) X.env = (false, eval e X.env) :: starEach es X.env := by rfl) (hpl : (backTo pos (starEach es X.env)).any (·.1) = false := by rfl) :
    PE X (.Call (.Name x p) (e :: es) [] pos) (tCall sp [] E0 t) := by
  obtain ⟨f, fd, ps, F, hm, kp, b⟩ := c
  rw [← hp] at F
  exact pe_call F (hr.mono hk) hg hm kp b .nil pass0 ha hdb he hpl
theorem ct_mk {w : World} {K : PySem.W.Frag} {mg : Str → Option Value} {base : Heap} {k : Nat} {x : Str} {i : Nat} {N ps : List Str} {sp : Sp} (T : Tp K mg) (hx : (x, i) ∈ fnTab) (S : FnScope N ps (defScope (topS i)))
    (hb : ∀ (kV doc pm : Value) (an : Option Addr) (cdv ct : Value) (us : List Value), us.length = ps.length → bindArgs (PySem.W.fnOf x x (defArgs (topS i)) (defBody (topS i)) (defScope (topS i)) .none kV doc pm an cdv ct) ⟨us, []⟩ = pure (ps.zip us))
    (len : ∀ vs H Q E, sp vs H Q E → vs.length = ps.length)
    (body : ∀ (f : Addr) (cdv : Value) (A : Around) (outer : List Env) (s : Shared) (H : Hp) (vs : List V) (Q : VK) (E : XK), Room k (A.deeper (envOfC x (defScope (topS i)) s.heap.objs.size f cdv)) → sp vs H Q E →
      ∃ t, PSs (cxOf CX0 prg w K mg base N x (defScope (topS i)) f cdv A outer s H E) (defBody (topS i)) t ∧ t { nx := fun _ H' => Q .non H', rt := Q } (start N vs) H) : Ct w K mg base (k + 1) x sp := by
  obtain ⟨f, fd, F, hm⟩ := T.fn _ hx
  exact ⟨f, fd, ps, F.ok S len fun cdv A outer s H vs Q E hr h => body f cdv A outer s H vs Q E hr h, hm, F.kp, F.bindsN hb⟩
/-! rules with K said (within comprehensions) -/
section
variable {X : Cx}
theorem ix_listK (K : PySem.W.Frag) (h : X.K = K := by rfl) : IxR X (rIxL K) := h ▸ ix_list
theorem ix_tupK (K : PySem.W.Frag) (h : X.K = K := by rfl) : IxR X (rIxT K) := h ▸ ix_tup
theorem sl_listK (K : PySem.W.Frag) (h : X.K = K := by rfl) : SlR X (rSlL K) := h ▸ sl_list
theorem op_inK (K : PySem.W.Frag) (h : X.K = K := by rfl) : OpR X (compareOp .In) (rIn K false) := h ▸ op_in_seq
theorem op_notInK (K : PySem.W.Frag) (h : X.K = K := by rfl) : OpR X (compareOp .NotIn) (rIn K true) := h ▸ op_notIn_seq
theorem op_eqDK (K : PySem.W.Frag) (hu : X.A.units + 64 < cLine) (h : X.K = K := by rfl) : OpR X (compareOp .Eq) (rEqD K) := h ▸ op_eqD hu
theorem op_neDK (K : PySem.W.Frag) (hu : X.A.units + 64 < cLine) (h : X.K = K := by rfl) : OpR X (compareOp .NotEq) (rNeD K) := h ▸ op_neD hu
theorem cr_allK (K : PySem.W.Frag) (hc : X.calm = true) (h : X.K = K := by rfl) : CallR X (.builtin "all") (rAll K) := h ▸ cr_all hc
theorem cr_sortedK (K : PySem.W.Frag) (h : X.K = K := by rfl) : CallR X (.builtin "sorted") (rSorted K) := h ▸ cr_sorted
theorem mt_indexK (K : PySem.W.Frag) (h : X.K = K := by rfl) : MtR X "list.index" (rIndex K) := h ▸ mt_index
theorem call_isiK2 (K : PySem.W.Frag) (h : X.K = K := by rfl) : CallR X (.builtin "isinstance") (rIsi K) := h ▸ call_isi
theorem call_lenK (K : PySem.W.Frag) (h : X.K = K := by rfl) : CallR X (.builtin "len") (rLenK K) := by
  subst h
  exact call_len_seq
theorem call_listK (K : PySem.W.Frag) (h : X.K = K := by rfl) : CallR X (.type "list") (rListK K) := by
  subst h
  exact call_list_of
variable {tg e e2 : Expr} {te : TE} {ta : TA} {p pos tpos : Pos} {elts : List Expr} {kk : Nat}
theorem pi_listK (K : PySem.W.Frag) (hl : PE X e te) (h : X.K = K := by rfl) : PI X tg e (iList K te) := h ▸ pi_list hl
theorem pi_zipK (K : PySem.W.Frag) (hg : Gl X "zip") (hm : X.mg "zip" = none) (ha : PA X [e, e2] ta) (h : X.K = K := by rfl) (hs : starEach [e, e2] X.env = (false, eval e X.env) :: starEach [e2] X.env := by rfl) (hpl : (backTo pos (starEach [e2] X.env)).any (·.1) = false := by rfl) :
    PI X (.Tuple elts kk tpos) (.Call (.Name "zip" p) [e, e2] [] pos) (iZip K ta) := h ▸ pi_zip hg hm ha hs hpl
theorem pi_enumK (K : PySem.W.Frag) (hg : Gl X "enumerate") (hm : X.mg "enumerate" = none) (ha : PA X [e] ta) (h : X.K = K := by rfl) (hs : starEach [e] X.env = [(false, eval e X.env)] := by rfl) :
    PI X (.Tuple elts kk tpos) (.Call (.Name "enumerate" p) [e] [] pos) (iEnum K ta) := h ▸ pi_enum hg hm ha hs
theorem pe_revK (K : PySem.W.Frag) {k : Nat} {p1 p2 p3 : Pos} (he : PE X e te) (h : X.K = K := by rfl) : PE X (.Subscript e (.Slice none none (some (.UnaryOp .USub (.Constant (.int 1) k p1) p2)) p3) pos) (tRevL K te) := h ▸ pe_revL he
end
end Still

set_option Elab.async false
set_option linter.all false
set_option maxRecDepth 100000
set_option maxHeartbeats 4000000
namespace Still
open PySem PySem.Spec PyProof.Rows L2
theorem mkSp_len {ι : Type} {P : ι → AX → Hp → List V → Prop} {O : ι → Ob} {n : Nat} (h : ∀ i X H vs, P i X H vs → vs.length = n) : ∀ vs H Q E, mkSp P O vs H Q E → vs.length = n := by
  rintro vs H Q E ⟨i, X, _, p, _⟩
  exact h i X H vs p
theorem a1_len {A : Ob} {X : AX} {H : Hp} {vs : List V} (h : a1 A X H vs) : vs.length = 1 := by
  obtain ⟨_, rfl, _⟩ := h
  rfl
theorem a2_len {A B : Ob} {X : AX} {H : Hp} {vs : List V} (h : a2 A B X H vs) : vs.length = 2 := by
  obtain ⟨_, _, rfl, _⟩ := h
  rfl
theorem a3_len {A B C : Ob} {X : AX} {H : Hp} {vs : List V} (h : a3 A B C X H vs) : vs.length = 3 := by
  obtain ⟨_, _, _, rfl, _⟩ := h
  rfl
theorem a4_len {A B C D : Ob} {X : AX} {H : Hp} {vs : List V} (h : a4 A B C D X H vs) : vs.length = 4 := by
  obtain ⟨_, _, _, _, rfl, _⟩ := h
  rfl
theorem a5_len {A B C D E : Ob} {X : AX} {H : Hp} {vs : List V} (h : a5 A B C D E X H vs) : vs.length = 5 := by
  obtain ⟨_, _, _, _, _, rfl, _⟩ := h
  rfl
theorem EvA.pre {ta : TA} {σ : L2.St} {X : AX} {H : Hp} {P : AX → Hp → List V → Prop} {p : Prop} (hp : p) (h : EvA ta σ X H P) : EvA ta σ X H fun X H vs => p ∧ P X H vs := fun Y H1 l Q q => h Y H1 l Q fun H2 vs s z => q H2 vs s ⟨hp, z⟩
section
variable {w : World} {K : PySem.W.Frag} {mg : Str → Option Value} {base : Heap}
variable {σ : L2.St} {X : AX} {H : Hp} {ta tb tc td te : TE}
/-! def contrary_rest: slots 0=p 1=rest 2=other -/
abbrev N_contrary_rest : List Str := ["p", "rest", "other"]
theorem sc_contrary_rest : FnScope N_contrary_rest ["p", "rest"] (defScope (topS 6)) := ⟨rfl, rfl, rfl, by decide +kernel, rfl, by decide +kernel, by decide +kernel⟩
def sp_contrary_rest : Sp := mkSp (ι := (q : Pm) × Fq q) (fun i X H vs => i.2 ≠ 0 ∧ a2 (oN i.1.n) (oF i.2) X H vs) (fun i => oF (Fd.inv i.2))
theorem ev_contrary_rest {q : Pm} {a : Fq q} (ha : a ≠ 0) (h1 : EvP ta σ X H (oN q.n)) (h2 : EvP tb σ X H (oF a)) : EvP (tCall sp_contrary_rest [] E0 (tCons ta (tCons tb tNil))) σ X H (oF (Fd.inv a)) :=
  ev_call (⟨q, a⟩ : (q : Pm) × Fq q) (EvA.pre ha (ea2 h1 h2))
theorem vl_nz {q : Pm} {a : Fq q} (h : a ≠ 0) : 1 ≤ vl a := by
  have := vl_lo a
  have h2 : vl a ≠ 0 := fun z => h (vl_inj (z.trans vl_zero.symm))
  omega
theorem c_contrary_rest (T : Tp K mg) : Ct w K mg base 1 "contrary_rest" sp_contrary_rest := by
  refine ct_mk T (i := 6) (by decide) sc_contrary_rest (fun _ _ _ _ _ _ us hl => match us, hl with | [_, _], _ => rfl) (mkSp_len fun i X H vs h => ?_) fun f cdv A outer s H vs Q E hr h => ?_
  · exact a2_len h.2
  · obtain ⟨⟨q, a⟩, X, k, ⟨ha, u, v, rfl, hu, hv⟩, post⟩ := h
    have nd := sc_contrary_rest.nd
    refine ⟨_, PSs.nox (pss_cons (ps_for PassesOwn.never rfl (pi_range2 (by rfl) (T.fr "range" (by decide)) (pa_cons pe_int (pa_cons (pv 0) pa_nil))) (pg_name (i := 2) nd rfl (Or.inl rfl))
    (pss_one (ps_if (pt_cmpR op_eq (pe_op op_modN (pe_op op_mul (pv 1) (pv 2)) (pv 0)) pe_int (nomark _))
    (pss_one (ps_ret (pv 2))) pss_nil)))
  (pss_one (ps_ret pe_int))), ?_⟩
    have hu : u = .int (q.n : Int) := hu
    have hv : v = .int (vl a) := hv
    subst hu hv
    have hq := q.pos
    refine s_for k (ei_range2 (m := 1) (n := q.n) ev_int (ev_var rfl rfl) (by omega) (by omega)) fun H1 s1 l1 => ?_
    refine ⟨fun i σ1 H2 => (∃ z, σ1 = [some (.int (q.n : Int)), some (.int (vl a)), z]) ∧ Same H H2 ∧ ∀ j : Nat, j < i → vl a * (1 + (j : Int)) % q.n ≠ 1, ⟨⟨none, rfl⟩, s1, fun j hj => by omega⟩, ?_, ?_⟩
    · rintro i x σ1 H2 H3 v hx l2 ⟨⟨z, rfl⟩, s2, hn⟩ s3 rfl
      obtain ⟨hx1, hx2⟩ := List.getElem?_eq_some_iff.mp hx
      rw [List.getElem_range] at hx2
      subst hx2
      rw [List.length_range] at hx1
      have k3 := (l2.same s3).kn
      refine tg1 _ ?_
      refine s_if1 (X := X) (b := decide (vl a * ((1 + i : Nat) : Int) % (q.n : Int) = 1)) k3 ((et_test (ev_eq (u := .int (vl a * ((1 + i : Nat) : Int) % (q.n : Int))) (v := .int 1) (ev_mod (ev_mulL (ev_var rfl rfl) (ev_var rfl rfl) (vl_64 a)) (ev_var rfl rfl) (by omega)) ev_int rfl)).eq (by simp)) (fun hb H4 s4 => ?_) fun hb H4 s4 => ?_
      · refine s_ret (X := X) (O := oF (Fd.inv a)) (k3.same s4) (ev_var rfl ?_) fun H5 v5 s5 o5 => post H5 v5 (((s2.trans s3).trans s4).trans s5) o5
        have h1 : vl a * ((1 + i : Nat) : Int) % (q.n : Int) = 1 := by simpa using hb
        have h2 : a * el q ((1 + i : Nat) : Int) = 1 := vl_inj (by
          rw [vl_mul, vl_el, vl_one, Int.mul_emod, Int.emod_emod_of_dvd _ (Int.dvd_refl _), ← Int.mul_emod, h1])
        have h3 : el q ((1 + i : Nat) : Int) = Fd.inv a := by
          have := Fd.mul_inv a ha
          have h4 : el q ((1 + i : Nat) : Int) = Fd.inv a * (a * el q ((1 + i : Nat) : Int)) := by grind
          rw [h2] at h4
          rw [h4]; grind
        show V.int _ = V.int _
        rw [← h3, vl_el, Int.emod_eq_of_lt (by omega) (by omega)]
      · refine ⟨⟨⟨_, rfl⟩, (s2.trans s3).trans s4, fun j hj => ?_⟩, (l2.same s3).same s4⟩
        by_cases e : j = i
        · subst e
          have h1 : ¬ vl a * ((1 + j : Nat) : Int) % (q.n : Int) = 1 := by simpa using hb
          rw [show (1 + (j : Int)) = ((1 + j : Nat) : Int) by omega]
          exact h1
        · exact hn j (by omega)
    · rintro σ1 H2 l2 ⟨_, _, hn⟩
      exfalso
      rw [List.length_range] at hn
      have h1 := vl_hi (Fd.inv a)
      have h0 := Fd.mul_inv a ha
      have h2 : (Fd.inv a) ≠ 0 := fun z => by rw [z] at h0; exact Fd.ne (by rw [← h0]; grind)
      have h3 := vl_nz h2
      refine hn ((vl (Fd.inv a) - 1).toNat) (by omega) ?_
      rw [show (1 + (((vl (Fd.inv a) - 1).toNat : Nat) : Int)) = vl (Fd.inv a) by omega, ← vl_mul, h0, vl_one]
/-! def lead: slots 0=row 1=k 2=number -/
abbrev N_lead : List Str := ["row", "k", "number"]
theorem sc_lead : FnScope N_lead ["row"] (defScope (topS 7)) := ⟨rfl, rfl, rfl, by decide +kernel, rfl, by decide +kernel, by decide +kernel⟩
def sp_lead : Sp := mkSp (ι := (q : Pm) × List (Fq q)) (fun i => a1 (oRow i.2)) (fun i => oO oN (leadM i.2))
theorem ev_lead {q : Pm} {r : List (Fq q)} (h : EvP ta σ X H (oRow r)) : EvP (tCall sp_lead [] E0 (tCons ta tNil)) σ X H (oO oN (leadM r)) := ev_call (⟨q, r⟩ : (q : Pm) × List (Fq q)) (ea1 h)
theorem numd_get {α : Type} {xs : List α} {i : Nat} {x : Nat × α} (h : (numd xs)[i]? = some x) : x.1 = i ∧ xs[i]? = some x.2 := by
  unfold numd at h
  rw [List.getElem?_zip_eq_some] at h
  obtain ⟨h1, h2⟩ := List.getElem?_eq_some_iff.mp h.1
  rw [List.getElem_range] at h2
  exact ⟨h2.symm, h.2⟩
theorem numd_len {α : Type} (xs : List α) : (numd xs).length = xs.length := by unfold numd; rw [List.length_zip, List.length_range]; omega
theorem vl_ne0 {q : Pm} {a : Fq q} : (!decide (V.int (vl a) = V.int 0)) = decide (a ≠ 0) := by
  by_cases h : a = 0
  · subst h; rw [vl_zero]; simp
  · have : vl a ≠ 0 := fun z => h (vl_inj (z.trans vl_zero.symm))
    simp [h, this]
theorem c_lead (T : Tp K mg) : Ct w K mg base 1 "lead" sp_lead := by
  refine ct_mk T (i := 7) (by decide) sc_lead (fun _ _ _ _ _ _ us hl => match us, hl with | [_], _ => rfl) (mkSp_len fun i X H vs h => ?_) fun f cdv A outer s H vs Q E hr h => ?_
  · exact a1_len h
  · obtain ⟨⟨q, r⟩, X, k, ⟨v, rfl, hv⟩, post⟩ := h
    have nd := sc_lead.nd
    refine ⟨_, PSs.nox (pss_cons (ps_for PassesOwn.never rfl (pi_enumK K (by rfl) (T.fr "enumerate" (by decide)) (pa_cons (pv 0) pa_nil)) (pg_tup (by rfl) (pgs_cons (pg_name (i := 1) nd rfl (Or.inl rfl)) (pgs_cons (pg_name (i := 2) nd rfl (Or.inl rfl)) pgs_nil)))
    (pss_one (ps_if (pt_cmpR op_ne (pv 2) pe_int (nomark _))
    (pss_one (ps_ret (pv 1))) pss_nil)))
  (pss_one (ps_ret pe_non))), ?_⟩
    refine s_for k (ei_enum (ev_var rfl hv)) fun H1 s1 l1 => ?_
    refine ⟨fun i σ1 H2 => (∃ z1 z2, σ1 = [some v, z1, z2]) ∧ Same H H2 ∧ ∀ m, m < i → vc r m = 0, ⟨⟨none, none, rfl⟩, s1, fun j hj => by omega⟩, ?_, ?_⟩
    · rintro i x σ1 H2 H3 u hx l2 ⟨⟨z1, z2, rfl⟩, s2, hz⟩ s3 hu
      obtain ⟨e1, e2⟩ := numd_get hx
      obtain ⟨a, b, ha, hb, tg⟩ := tg2 (K := K) (i := 1) (j := 2) (σ := [some v, z1, z2]) hu
      have k3 := (l2.same s3).kn
      refine tg _ ?_
      refine s_if1 (X := X) (b := decide (x.2 ≠ 0)) k3 ((et_test (ev_ne (u := .int (vl x.2)) (v := .int 0) (ev_var rfl hb) ev_int rfl)).eq vl_ne0) (fun hb2 H4 s4 => ?_) fun hb2 H4 s4 => ?_
      · refine s_ret (X := X) (O := oN i) (k3.same s4) (ev_var rfl (by rw [← e1]; exact ha)) fun H5 v5 s5 o5 => post H5 v5 (((s2.trans s3).trans s4).trans s5) ?_
        have : leadM r = some i := lead_some.mpr ⟨by rw [vc_lt e2]; simpa using hb2, hz⟩
        show oO oN (leadM r) X H5 v5
        rw [this]
        exact o5
      · refine ⟨⟨⟨_, _, rfl⟩, (s2.trans s3).trans s4, fun m hm => ?_⟩, (l2.same s3).same s4⟩
        by_cases e : m = i
        · subst e
          rw [vc_lt e2]
          simpa using hb2
        · exact hz m (by omega)
    · rintro σ1 H2 l2 ⟨_, s2, hz⟩
      rw [numd_len] at hz
      refine s_ret (X := X) (O := oV .non) l2.kn ev_c fun H5 v5 s5 o5 => post H5 v5 (s2.trans s5) ?_
      have : leadM r = none := lead_none.mpr fun m => by
        by_cases hm : m < r.length
        · exact hz m hm
        · exact vc_ge (by omega)
      show oO oN (leadM r) X H5 v5
      rw [this]
      exact o5
/-! def scaled: slots 0=p 1=rest 2=row 3=number -/
abbrev N_scaled : List Str := ["p", "rest", "row", "number"]
theorem sc_scaled : FnScope N_scaled ["p", "rest", "row"] (defScope (topS 8)) := ⟨rfl, rfl, rfl, by decide +kernel, rfl, by decide +kernel, by decide +kernel⟩
def sp_scaled : Sp := mkSp (ι := (q : Pm) × Fq q × List (Fq q)) (fun i => a3 (oN i.1.n) (oF i.2.1) (oRow i.2.2)) (fun i => oRow (scM i.2.1 i.2.2))
theorem ev_scaled {q : Pm} {a : Fq q} {r : List (Fq q)} (h1 : EvP ta σ X H (oN q.n)) (h2 : EvP tb σ X H (oF a)) (h3 : EvP tc σ X H (oRow r)) : EvP (tCall sp_scaled [] E0 (tCons ta (tCons tb (tCons tc tNil)))) σ X H (oRow (scM a r)) := ev_call (⟨q, a, r⟩ : (q : Pm) × Fq q × List (Fq q)) (ea3 h1 h2 h3)
theorem oL_len {α : Type} {R : α → Ob} {xs : List α} {X : AX} {H : Hp} {v : V} (h : oL R xs X H v) : xs.length ≤ 5000 := by
  obtain ⟨_, _, _, _, _, _, b, _⟩ := h
  exact b
theorem c_scaled (T : Tp K mg) : Ct w K mg base 1 "scaled" sp_scaled := by
  refine ct_mk T (i := 8) (by decide) sc_scaled (fun _ _ _ _ _ _ us hl => match us, hl with | [_, _, _], _ => rfl) (mkSp_len fun i X H vs h => ?_) fun f cdv A outer s H vs Q E hr h => ?_
  · exact a3_len h
  · obtain ⟨⟨q, a, r⟩, X, k, ⟨u1, u2, u3, rfl, h1, h2, h3⟩, post⟩ := h
    dsimp only at h1 h2 h3 post
    have nd := sc_scaled.nd
    refine ⟨_, PSs.nox (pss_one (ps_ret (pe_lc (own := [("number", 3)]) (g := gName 3) (tt := tYes) rfl nd (pi_listK K (pv 2)) (blkOk_by (N := N_scaled) (sc := (defScope (topS 8))) (by decide +kernel)) (fun _ _ _ _ _ => pg_name (i := 3) nd rfl (Or.inl rfl)) (fun _ _ _ _ _ => pts_nil) (fun _ _ _ _ _ => pe_op op_modN (pe_op op_mul (pv 1) (pv 3)) (pv 0))))), ?_⟩
    refine s_ret (X := X) (O := oRow (scM a r)) k ((en_map (R' := fun x : Fq q => oF x) (fun x => a * x) (ei_list (ev_var rfl h3)) (oL_len h3) fun x hx Y H1 v l rv => ?_).ev (by rw [List.length_map]; exact oL_len h3)) fun H5 v5 s5 o5 => post H5 v5 s5 o5
    refine ⟨_, tg1, rfl, ?_⟩
    exact ev_modF (i := vl a * vl x) (ev_mulL (ev_var rfl (up l h2)) (ev_var rfl rv) (vl_64 a)) (ev_var rfl (up l h1)) (vl_mul a x).symm
/-! def taken: slots 0=p 1=row 2=rest 3=other 4=one 5=two -/
abbrev N_taken : List Str := ["p", "row", "rest", "other", "one", "two"]
theorem sc_taken : FnScope N_taken ["p", "row", "rest", "other"] (defScope (topS 9)) := ⟨rfl, rfl, rfl, by decide +kernel, rfl, by decide +kernel, by decide +kernel⟩
def sp_taken : Sp := mkSp (ι := (q : Pm) × Int × List (Fq q) × List (Fq q)) (fun i X H vs => i.2.2.1.length = i.2.2.2.length ∧ a4 (oN i.1.n) (oRow i.2.2.1) (oI i.2.1) (oRow i.2.2.2) X H vs) (fun i => oRow (tkM i.2.2.1 (el i.1 i.2.1) i.2.2.2))
theorem ev_takenI {q : Pm} {c : Int} {x y : List (Fq q)} (hl : x.length = y.length) (h1 : EvP ta σ X H (oN q.n)) (h2 : EvP tb σ X H (oRow x)) (h3 : EvP tc σ X H (oI c)) (h4 : EvP td σ X H (oRow y)) : EvP (tCall sp_taken [] E0 (tCons ta (tCons tb (tCons tc (tCons td tNil))))) σ X H (oRow (tkM x (el q c) y)) :=
  ev_call (⟨q, c, x, y⟩ : (q : Pm) × Int × List (Fq q) × List (Fq q)) (EvA.pre hl (ea4 h1 h2 h3 h4))
theorem ev_taken {q : Pm} {c : Fq q} {x y : List (Fq q)} (hl : x.length = y.length) (h1 : EvP ta σ X H (oN q.n)) (h2 : EvP tb σ X H (oRow x)) (h3 : EvP tc σ X H (oF c)) (h4 : EvP td σ X H (oRow y)) : EvP (tCall sp_taken [] E0 (tCons ta (tCons tb (tCons tc (tCons td tNil))))) σ X H (oRow (tkM x c y)) := by
  have := ev_takenI hl h1 h2 h3 h4
  rw [el_vl] at this
  exact this
theorem el_sub_mul (q : Pm) (a b : Fq q) (c : Int) : (vl a - c * vl b) % q.n = vl (a - el q c * b) := by
  rw [vl_sub, vl_mul, vl_el, Int.sub_emod (vl a) (c * vl b), Int.sub_emod (vl a) (c % (q.n : Int) * vl b % (q.n : Int)), Int.emod_emod_of_dvd _ (Int.dvd_refl _), Int.mul_emod (c % (q.n : Int)) (vl b), Int.emod_emod_of_dvd _ (Int.dvd_refl _), ← Int.mul_emod]
theorem zw_map {α β γ : Type} (f : α → β → γ) (x : List α) (y : List β) : List.zipWith f x y = (x.zip y).map fun p => f p.1 p.2 := by
  rw [List.zip, List.map_zipWith]
theorem c_taken (T : Tp K mg) : Ct w K mg base 1 "taken" sp_taken := by
  refine ct_mk T (i := 9) (by decide) sc_taken (fun _ _ _ _ _ _ us hl => match us, hl with | [_, _, _, _], _ => rfl) (mkSp_len fun i X H vs h => ?_) fun f cdv A outer s H vs Q E hr h => ?_
  · exact a4_len h.2
  · obtain ⟨⟨q, c, x, y⟩, X, k, ⟨hl, u1, u2, u3, u4, rfl, h1, h2, h3, h4⟩, post⟩ := h
    dsimp only at hl h1 h2 h3 h4 post
    have hx := oL_len h2
    have nd := sc_taken.nd
    refine ⟨_, PSs.nox (pss_one (ps_ret (pe_lc (own := [("one", 4), ("two", 5)]) (g := gTup K 2 (gCons (gName 4) (gCons (gName 5) gNil))) (tt := tYes) rfl nd (pi_zipK K (by rfl) (T.fr "zip" (by decide)) (pa_cons (pv 1) (pa_cons (pv 3) pa_nil))) (blkOk_by (N := N_taken) (sc := (defScope (topS 9))) (by decide +kernel)) (fun _ _ _ _ _ => pg_tup (by rfl) (pgs_cons (pg_name (i := 4) nd rfl (Or.inl rfl)) (pgs_cons (pg_name (i := 5) nd rfl (Or.inl rfl)) pgs_nil))) (fun _ _ _ _ _ => pts_nil) (fun _ _ _ _ _ => pe_op op_modN (pe_op op_sub (pv 4) (pe_op op_mul (pv 2) (pv 5))) (pv 0))))), ?_⟩
    refine s_ret (X := X) (O := oRow (tkM x (el q c) y)) k (((en_map (R' := fun x : Fq q => oF x) (fun p : Fq q × Fq q => p.1 - el q c * p.2) (ei_zip (ev_var rfl h2) (ev_var rfl h4) hl) (by rw [List.length_zip]; omega) fun p hp Y H1 v l rv => ?_).eq (show _ = tkM x (el q c) y from (zw_map (fun a b => a - el q c * b) x y).symm)).ev (by unfold tkM; rw [List.length_zipWith]; omega)) fun H5 v5 s5 o5 => post H5 v5 s5 o5
    obtain ⟨a, b, ha, hb, tg⟩ := tg2 (K := K) (i := 4) (j := 5) (σ := wipe (start N_taken [u1, u2, u3, u4]) [4, 5]) rv
    refine ⟨_, tg, rfl, ?_⟩
    exact ev_modF (i := vl p.1 - c * vl p.2) (ev_I0 (ev_var rfl ha) (ev_mulR (ev_var rfl (up l h3)) (ev_var rfl hb) (vl_64 p.2))) (ev_var rfl (up l h1)) (el_sub_mul q p.1 p.2 c)
end
end Still

set_option Elab.async false
set_option linter.all false
set_option maxRecDepth 100000
set_option maxHeartbeats 4000000
namespace Still
open PySem PySem.Spec PyProof.Rows L2
section
variable {w : World} {K : PySem.W.Frag} {mg : Str → Option Value} {base : Heap}
variable {σ : L2.St} {X : AX} {H : Hp} {ta tb tc td te : TE}
theorem take_fold {α β : Type} (f : β → α → β) (z : β) {xs : List α} {i : Nat} {x : α} (h : xs[i]? = some x) : (xs.take (i + 1)).foldl f z = f ((xs.take i).foldl f z) x := by
  rw [List.take_add_one, h, List.foldl_append]; rfl
theorem take_all {α : Type} (xs : List α) : xs.take xs.length = xs := List.take_length
theorem lead_ev {q : Pm} {r : List (Fq q)} {te : TE} (e : leadM r = some (ld r)) (h : EvP te σ X H (oO oN (leadM r))) : EvP te σ X H (oN (ld r)) := by
  rw [e] at h
  exact h
/-! def left_of: slots 0=p 1=form 2=row 3=found 4=other -/
abbrev N_left_of : List Str := ["p", "form", "row", "found", "other"]
theorem sc_left_of : FnScope N_left_of ["p", "form", "row"] (defScope (topS 10)) := ⟨rfl, rfl, rfl, by decide +kernel, rfl, by decide +kernel, by decide +kernel⟩
structure LeftOk {q : Pm} (n : Nat) (form : List (List (Fq q))) (x : List (Fq q)) : Prop where
  pre : Pre n form
  len : x.length = n
def sp_left_of : Sp := mkSp (ι := (q : Pm) × Nat × List (List (Fq q)) × List (Fq q)) (fun i X H vs => LeftOk i.2.1 i.2.2.1 i.2.2.2 ∧ a3 (oN i.1.n) (oRows i.2.2.1) (oRow i.2.2.2) X H vs) (fun i => oRow (leftM i.2.2.1 i.2.2.2))
theorem ev_left_of {q : Pm} {n : Nat} {form : List (List (Fq q))} {x : List (Fq q)} (hp : Pre n form) (hx : x.length = n) (h1 : EvP ta σ X H (oN q.n)) (h2 : EvP tb σ X H (oRows form)) (h3 : EvP tc σ X H (oRow x)) :
    EvP (tCall sp_left_of [] E0 (tCons ta (tCons tb (tCons tc tNil)))) σ X H (oRow (leftM form x)) :=
  ev_call (⟨q, n, form, x⟩ : (q : Pm) × Nat × List (List (Fq q)) × List (Fq q)) (EvA.pre ⟨hp, hx⟩ (ea3 h1 h2 h3))
theorem c_left_of (c_taken : Ct w K mg base 2 "taken" sp_taken) (c_lead : Ct w K mg base 2 "lead" sp_lead) (T : Tp K mg) : Ct w K mg base 3 "left_of" sp_left_of := by
  refine ct_mk T (i := 10) (by decide) sc_left_of (fun _ _ _ _ _ _ us hl => match us, hl with | [_, _, _], _ => rfl) (mkSp_len fun i X H vs h => ?_) fun f cdv A outer s H vs Q E hr h => ?_
  · exact a3_len h.2
  · obtain ⟨⟨q, n, form, x⟩, X, k, ⟨⟨hp, hx⟩, u1, u2, u3, rfl, h1, h2, h3⟩, post⟩ := h
    dsimp only at hp hx h1 h2 h3 post
    have nd := sc_left_of.nd
    refine ⟨_, PSs.nox (pss_cons (ps_set (i := 3) nd rfl (.inl rfl) (pe_callTy (call_listK K) (by rfl) (T.fr "list" (by decide)) (by decide +kernel) (pa_cons (pv 2) pa_nil)))
  (pss_cons (ps_for PassesOwn.never rfl (pi_listK K (pv 1)) (pg_name (i := 4) nd rfl (Or.inl rfl))
    (pss_one (ps_set (i := 3) nd rfl (.inl rfl) (pe_ct c_taken hr (by decide) (by rfl) (pa_cons (pv 0) (pa_cons (pv 3) (pa_cons (pe_ix (ix_listK K) (pv 3) (pe_ct c_lead hr (by decide) (by rfl) (pa_cons (pv 4) pa_nil)) (fun _ _ => rfl)) (pa_cons (pv 4) pa_nil))))))))
  (pss_one (ps_ret (pv 3))))), ?_⟩
    refine s_set k ((en_list (ev_var rfl h3)).ev (oL_len h3)) fun H1 v s1 hv => ?_
    have k1 := k.same s1
    have l1 := Lt.of k s1
    refine s_for k1 (ei_list (ev_var rfl (up l1 h2))) fun H2 s2 l2 => ?_
    refine ⟨fun i σ1 H3 => (∃ z vf, σ1 = [some u1, some u2, some u3, some vf, z] ∧ oRow (leftM (form.take i) x) X H3 vf) ∧ Same H H3, ⟨⟨none, v, rfl, by rw [List.take_zero]; exact up l2 hv⟩, s1.trans s2⟩, ?_, ?_⟩
    · rintro i o σ1 H3 H4 vo ho l3 ⟨⟨z, vf, rfl, hf⟩, sa⟩ s4 hvo
      have hm := List.mem_of_getElem? ho
      have hpt : Pre n (form.take i) := ⟨fun r hr => hp.row r (List.mem_of_mem_take hr), fun r hr => hp.hd r (List.mem_of_mem_take hr), fun r hr => hp.one r (List.mem_of_mem_take hr), fun r hr s hs => hp.zer r (List.mem_of_mem_take hr) s (List.mem_of_mem_take hs), (((List.take_sublist i form).map ld).nodup hp.nd)⟩
      have hll : (leftM (form.take i) x).length = n := left_len hpt.row hx
      have l4 := l3.same s4
      have lk := l1.trans (l2.trans l4)
      refine tg1 _ ?_
      refine s_set1 l4.kn (ev_taken (q := q) (c := vc (leftM (form.take i) x) (ld o)) (by rw [hll, hp.row o hm]) (ev_var rfl (up lk h1)) (ev_var rfl (rsm s4 hf)) (ev_ix (i := ld o) (ev_var rfl (rsm s4 hf)) (lead_ev (hp.hd o hm) (ev_lead (ev_var rfl hvo))) (vc_get (by rw [hll]; exact hp.lt Fd.ne hm))) (ev_var rfl hvo)) fun H5 v5 s5 o5 => ?_
      refine ⟨⟨⟨_, _, rfl, ?_⟩, (sa.trans s4).trans s5⟩, l4.same s5⟩
      unfold leftM
      rw [take_fold _ _ ho]
      exact o5
    · rintro σ1 H3 l3 ⟨⟨z, vf, rfl, hf⟩, sa⟩
      rw [take_all] at hf
      exact s_ret l3.kn (ev_var rfl hf) fun H5 v5 s5 o5 => post H5 v5 (sa.trans s5) o5
/-! def has: slots 0=p 1=form 2=row -/
abbrev N_has : List Str := ["p", "form", "row"]
theorem sc_has : FnScope N_has ["p", "form", "row"] (defScope (topS 16)) := ⟨rfl, rfl, rfl, by decide +kernel, rfl, by decide +kernel, by decide +kernel⟩
def sp_has : Sp := mkSp (ι := (q : Pm) × Nat × List (List (Fq q)) × List (Fq q)) (fun i X H vs => LeftOk i.2.1 i.2.2.1 i.2.2.2 ∧ a3 (oN i.1.n) (oRows i.2.2.1) (oRow i.2.2.2) X H vs) (fun i => oB (hasM i.2.2.1 i.2.2.2))
theorem ev_has {q : Pm} {n : Nat} {form : List (List (Fq q))} {x : List (Fq q)} (hp : Pre n form) (hx : x.length = n) (h1 : EvP ta σ X H (oN q.n)) (h2 : EvP tb σ X H (oRows form)) (h3 : EvP tc σ X H (oRow x)) :
    EvP (tCall sp_has [] E0 (tCons ta (tCons tb (tCons tc tNil)))) σ X H (oB (hasM form x)) :=
  ev_call (⟨q, n, form, x⟩ : (q : Pm) × Nat × List (List (Fq q)) × List (Fq q)) (EvA.pre ⟨hp, hx⟩ (ea3 h1 h2 h3))
theorem ev_isNone {α : Type} {R : α → Ob} {o : Option α} (hR : ∀ x X H, ¬ R x X H .non) (h : EvP ta σ X H (oO R o)) : EvP (tOp (fun x y H Q => y = .non ∧ Q (.bl (decide (x = .non))) H) ta (tC .non)) σ X H (oB (decide (o = none))) := fun Y H1 l Q q =>
  h Y H1 l _ fun H2 v s ov => ⟨rfl, q H2 _ s (by
    show V.bl _ = V.bl _
    cases o with
    | none =>
      have e : v = .non := ov
      subst e
      simp
    | some x =>
      have : v ≠ .non := fun z => hR x Y H2 (z ▸ ov)
      simp [this])⟩
theorem oN_non (i : Nat) (X : AX) (H : Hp) : ¬ oN i X H .non := fun z => by
  have z : V.non = .int (i : Int) := z
  cases z
theorem oL_non {α : Type} {R : α → Ob} (xs : List α) (X : AX) (H : Hp) : ¬ oL R xs X H .non := fun ⟨_, _, e, _⟩ => by cases e
theorem c_has (c_left_of : Ct w K mg base 3 "left_of" sp_left_of) (c_lead : Ct w K mg base 3 "lead" sp_lead) (T : Tp K mg) : Ct w K mg base 4 "has" sp_has := by
  refine ct_mk T (i := 16) (by decide) sc_has (fun _ _ _ _ _ _ us hl => match us, hl with | [_, _, _], _ => rfl) (mkSp_len fun i X H vs h => ?_) fun f cdv A outer s H vs Q E hr h => ?_
  · exact a3_len h.2
  · obtain ⟨⟨q, n, form, x⟩, X, k, ⟨⟨hp, hx⟩, u1, u2, u3, rfl, h1, h2, h3⟩, post⟩ := h
    dsimp only at hp hx h1 h2 h3 post
    have nd := sc_has.nd
    refine ⟨_, PSs.nox (pss_one (ps_ret (pe_cmpR op_isN (pe_ct c_lead hr (by decide) (by rfl) (pa_cons (pe_ct c_left_of hr (by decide) (by rfl) (pa_cons (pv 0) (pa_cons (pv 1) (pa_cons (pv 2) pa_nil)))) pa_nil)) pe_non (nomark _)))), ?_⟩
    exact s_ret k (ev_isNone oN_non (ev_lead (ev_left_of hp hx (ev_var rfl h1) (ev_var rfl h2) (ev_var rfl h3)))) fun H5 v5 s5 o5 => post H5 v5 s5 o5
/-! def mixed: slots 0=p 1=length 2=numbers 3=rows 4=found 5=number 6=row -/
abbrev N_mixed : List Str := ["p", "length", "numbers", "rows", "found", "number", "row"]
theorem sc_mixed : FnScope N_mixed ["p", "length", "numbers", "rows"] (defScope (topS 17)) := ⟨rfl, rfl, rfl, by decide +kernel, rfl, by decide +kernel, by decide +kernel⟩
structure MixOk {q : Pm} (n : Nat) (row : List (Fq q)) (A : List (List (Fq q))) : Prop where
  len : row.length = A.length
  row : ∀ r, r ∈ A → r.length = n
  le : n ≤ 5000
def mixM {q : Pm} (n : Nat) (row : List (Fq q)) (A : List (List (Fq q))) : List (Fq q) := (row.zip A).foldl (fun f p => tkM f (0 - p.1) p.2) (List.replicate n 0)
def sp_mixed : Sp := mkSp (ι := (q : Pm) × Nat × List (Fq q) × List (List (Fq q))) (fun i X H vs => MixOk i.2.1 i.2.2.1 i.2.2.2 ∧ a4 (oN i.1.n) (oN i.2.1) (oRow i.2.2.1) (oRows i.2.2.2) X H vs) (fun i => oRow (mixM i.2.1 i.2.2.1 i.2.2.2))
theorem ev_mixed {q : Pm} {n : Nat} {row : List (Fq q)} {A : List (List (Fq q))} (ok : MixOk n row A) (h1 : EvP ta σ X H (oN q.n)) (h2 : EvP tb σ X H (oN n)) (h3 : EvP tc σ X H (oRow row)) (h4 : EvP td σ X H (oRows A)) :
    EvP (tCall sp_mixed [] E0 (tCons ta (tCons tb (tCons tc (tCons td tNil))))) σ X H (oRow (mixM n row A)) :=
  ev_call (⟨q, n, row, A⟩ : (q : Pm) × Nat × List (Fq q) × List (List (Fq q))) (EvA.pre ok (ea4 h1 h2 h3 h4))
theorem vl_0 {q : Pm} : oI 0 = oF (0 : Fq q) := by
  show oV (.int 0) = oV (.int (vl (0 : Fq q)))
  rw [vl_zero]
theorem el_neg (q : Pm) (a : Fq q) : el q (0 - vl a) = 0 - a := vl_inj (by
  rw [vl_el, vl_sub, vl_zero])
theorem c_mixed (c_taken : Ct w K mg base 2 "taken" sp_taken) (T : Tp K mg) : Ct w K mg base 3 "mixed" sp_mixed := by
  refine ct_mk T (i := 17) (by decide) sc_mixed (fun _ _ _ _ _ _ us hl => match us, hl with | [_, _, _, _], _ => rfl) (mkSp_len fun i X H vs h => ?_) fun f cdv A outer s H vs Q E hr h => ?_
  · exact a4_len h.2
  · obtain ⟨⟨q, n, row, A⟩, X, k, ⟨⟨hl, hw, hn⟩, u1, u2, u3, u4, rfl, h1, h2, h3, h4⟩, post⟩ := h
    dsimp only at hl hw hn h1 h2 h3 h4 post
    have nd := sc_mixed.nd
    refine ⟨_, PSs.nox (pss_cons (ps_set (i := 4) nd rfl (.inl rfl) (pe_op op_rep (pe_lst (pa_cons pe_int pa_nil)) (pv 1)))
  (pss_cons (ps_for PassesOwn.never rfl (pi_zipK K (by rfl) (T.fr "zip" (by decide)) (pa_cons (pv 2) (pa_cons (pv 3) pa_nil))) (pg_tup (by rfl) (pgs_cons (pg_name (i := 5) nd rfl (Or.inl rfl)) (pgs_cons (pg_name (i := 6) nd rfl (Or.inl rfl)) pgs_nil)))
    (pss_one (ps_set (i := 4) nd rfl (.inl rfl) (pe_ct c_taken hr (by decide) (by rfl) (pa_cons (pv 0) (pa_cons (pv 4) (pa_cons (pe_op op_sub pe_int (pv 5)) (pa_cons (pv 6) pa_nil))))))))
  (pss_one (ps_ret (pv 4))))), ?_⟩
    refine s_set k ((en_rep (R := fun a : Fq q => oF a) (x := 0) ((en_one (R := fun a : Fq q => oF a) (ev_int.eq vl_0)).ev (by simp)) (ev_var rfl h2) hn).ev (by simpa using hn)) fun H1 v s1 hv => ?_
    have k1 := k.same s1
    have l1 := Lt.of k s1
    refine s_for k1 (ei_zip (ev_var rfl (up l1 h3)) (ev_var rfl (up l1 h4)) hl) fun H2 s2 l2 => ?_
    refine ⟨fun i σ1 H3 => (∃ z1 z2 vf, σ1 = [some u1, some u2, some u3, some u4, some vf, z1, z2] ∧ oRow (((row.zip A).take i).foldl (fun f p => tkM f (0 - p.1) p.2) (List.replicate n 0)) X H3 vf) ∧ Same H H3 ∧ (((row.zip A).take i).foldl (fun f p => tkM f (0 - p.1) p.2) (List.replicate n 0)).length = n, ⟨⟨none, none, v, rfl, by rw [List.take_zero]; exact up l2 hv⟩, s1.trans s2, by rw [List.take_zero]; simp⟩, ?_, ?_⟩
    · rintro i o σ1 H3 H4 vo ho l3 ⟨⟨z1, z2, vf, rfl, hf⟩, sa, hfl⟩ s4 hvo
      have l4 := l3.same s4
      have lk := l1.trans (l2.trans l4)
      obtain ⟨a, b, ha, hb, tg⟩ := tg2 (K := K) (i := 5) (j := 6) (σ := [some u1, some u2, some u3, some u4, some vf, z1, z2]) hvo
      have ho2 := ho
      rw [List.getElem?_zip_eq_some] at ho2
      have hm := hw _ (List.mem_of_getElem? ho2.2)
      refine tg _ ?_
      refine s_set1 l4.kn (ev_takenI (q := q) (c := 0 - vl o.1) (by rw [hfl, hm]) (ev_var rfl (up lk h1)) (ev_var rfl (rsm s4 hf)) (ev_I0 ev_int (ev_var rfl ha)) (ev_var rfl hb)) fun H5 v5 s5 o5 => ?_
      rw [el_neg] at o5
      refine ⟨⟨⟨_, _, _, rfl, ?_⟩, (sa.trans s4).trans s5, ?_⟩, l4.same s5⟩
      · rw [take_fold _ _ ho]
        exact o5
      · rw [take_fold _ _ ho]
        rw [tk_len (by rw [hfl, hm]), hfl]
    · rintro σ1 H3 l3 ⟨⟨z1, z2, vf, rfl, hf⟩, sa, _⟩
      rw [take_all] at hf
      exact s_ret l3.kn (ev_var rfl hf) fun H5 v5 s5 o5 => post H5 v5 (sa.trans s5) o5
/-! def led: slots 0=p 1=row 2=table -/
abbrev N_led : List Str := ["p", "row", "table"]
theorem sc_led : FnScope N_led ["p", "row", "table"] (defScope (topS 20)) := ⟨rfl, rfl, rfl, by decide +kernel, rfl, by decide +kernel, by decide +kernel⟩
structure LedOk {q : Pm} (n : Nat) (row : List (Fq q)) (A : List (List (Fq q))) : Prop where
  len : row.length = A.length
  row : ∀ r, r ∈ A → r.length = n
  ne : A ≠ []
theorem LedOk.of {q : Pm} {n : Nat} {row : List (Fq q)} {A : List (List (Fq q))} (h : Sq n A) (hr : row.length = n) (pos : 0 < n) : LedOk n row A := ⟨by rw [hr, h.1], h.2, fun z => by have := h.1; rw [z] at this; simp at this; omega⟩
def sp_led : Sp := mkSp (ι := (q : Pm) × Nat × List (Fq q) × List (List (Fq q))) (fun i X H vs => LedOk i.2.1 i.2.2.1 i.2.2.2 ∧ a3 (oN i.1.n) (oRow i.2.2.1) (oRows i.2.2.2) X H vs) (fun i => oRow (ledM i.2.2.1 i.2.2.2))
theorem ev_led {q : Pm} {n : Nat} {row : List (Fq q)} {A : List (List (Fq q))} (ok : LedOk n row A) (h1 : EvP ta σ X H (oN q.n)) (h2 : EvP tb σ X H (oRow row)) (h3 : EvP tc σ X H (oRows A)) :
    EvP (tCall sp_led [] E0 (tCons ta (tCons tb (tCons tc tNil)))) σ X H (oRow (ledM row A)) :=
  ev_call (⟨q, n, row, A⟩ : (q : Pm) × Nat × List (Fq q) × List (List (Fq q))) (EvA.pre ok (ea3 h1 h2 h3))
theorem oRows_row {q : Pm} {A : List (List (Fq q))} {X : AX} {H : Hp} {v : V} (h : oRows A X H v) {r : List (Fq q)} (hr : r ∈ A) : r.length ≤ 5000 := by
  obtain ⟨a, vs, e, n, e1, it, b⟩ := h.its
  obtain ⟨i, hi⟩ := List.getElem?_of_mem hr
  obtain ⟨u, e2, r2⟩ := it.get hi
  exact oL_len r2
theorem c_led (c_mixed : Ct w K mg base 3 "mixed" sp_mixed) (T : Tp K mg) : Ct w K mg base 4 "led" sp_led := by
  refine ct_mk T (i := 20) (by decide) sc_led (fun _ _ _ _ _ _ us hl => match us, hl with | [_, _, _], _ => rfl) (mkSp_len fun i X H vs h => ?_) fun f cdv A outer s H vs Q E hr h => ?_
  · exact a3_len h.2
  · obtain ⟨⟨q, n, row, A⟩, X, k, ⟨⟨hl, hw, hne⟩, u1, u2, u3, rfl, h1, h2, h3⟩, post⟩ := h
    dsimp only at hl hw hne h1 h2 h3 post
    have nd := sc_led.nd
    refine ⟨_, PSs.nox (pss_one (ps_ret (pe_ct c_mixed hr (by decide) (by rfl) (pa_cons (pv 0) (pa_cons (pe_callB (call_lenK K) (by rfl) (T.fr "len" (by decide)) PySem.boot_len (pa_cons (pe_ix (ix_listK K) (pv 2) pe_int (fun _ _ => rfl)) pa_nil)) (pa_cons (pv 1) (pa_cons (pv 2) pa_nil))))))), ?_⟩
    obtain ⟨r, hr⟩ : ∃ r, A[0]? = some r := by
      cases A with
      | nil => exact absurd rfl hne
      | cons r A => exact ⟨r, rfl⟩
    have e0 : A.getD 0 [] = r := by rw [List.getD_eq_getElem?_getD, hr]; rfl
    have er := hw r (List.mem_of_getElem? hr)
    have ok : MixOk r.length row A := ⟨hl, fun s hs => by rw [er]; exact hw s hs, oRows_row h3 (List.mem_of_getElem? hr)⟩
    refine s_ret k (ev_mixed ok (ev_var rfl h1) (ev_len (ev_ix (i := 0) (ev_var rfl h3) ev_nat hr)) (ev_var rfl h2) (ev_var rfl h3)) fun H5 v5 s5 o5 => post H5 v5 s5 ?_
    unfold ledM
    rw [e0]
    exact o5
end
end Still

set_option Elab.async false
set_option linter.all false
set_option maxRecDepth 100000
set_option maxHeartbeats 4000000
namespace Still
open PySem PySem.Spec PyProof.Rows L2 PySem.W
/-! sorted(xs, key=f), f a def of the text that gives whole numbers -/
section
variable {X : Cx} {pins : List (Addr × Obj)} {σ : L2.St} {H : Hp} {s : Shared}
/-- the def called two calls deeper, where nothing is raised -/
theorem call_in2 {k : Nat} {f : Addr} {fd : FuncData} {ps : List Str} {sp : L2.Sp} {u : Value} {x : V} {Q : VK} {E' : Value → Shared → Prop} (F : FnOk X.prog X.w X.K X.mg X.base CX0 k f fd ps sp) (hb : Binds X.K fd ps []) (hr : Room k X.A.in1.in1)
    (I : Inv X pins σ H s) (r : RelV x u) (h : sp [x] H Q E0) : wpAny (model X.prog X.w) X.A.in1.in1 (call (.ref f) [u]) (EP X pins σ Q) E' s := by
  have r2 : Vals [x] [u] := .cons r .nil
  have hl : [u].length = ps.length := by rw [← r2.length]; exact F.len _ _ _ _ h
  have hbi := hb s [u] I.kIn (by rw [List.append_nil]; exact hl)
  rw [List.append_nil] at hbi
  refine wpAny_call (codeAny_mono (F.run X.A.in1.in1 X.stack s H ⟨[u], []⟩ [u] [x] Q E0 hr I.env0.in1.in1 hbi r2 h) fun z s' hq => ?_)
  cases z with
  | error e => exact False.elim hq
  | ok fl =>
    cases fl with
    | ret v => exact I.after hq
    | next => exact False.elim hq
    | brk => exact False.elim hq
    | cont => exact False.elim hq
theorem reads_map {h : Heap} : ∀ {us : List Value} {ks : List Int}, Vals (ks.map V.int) us → EachIs (fun v d => ∃ as, Reads h v d as) us (ks.map PyData.int)
  | _, [], r => by
    cases r
    exact .nil
  | _, k :: ks, r => by
    cases r with
    | cons a b =>
      obtain ⟨t, rfl⟩ := a
      exact .cons ⟨[], .int k t⟩ (reads_map b)
theorem each_zip : ∀ {xs : List V} {us : List Value} {ks : List Int}, Vals xs us → ks.length = xs.length → EachIs (fun (v : Value) (b : V × Int) => RelV b.1 v) us (xs.zip ks)
  | [], _, [], r, _ => by cases r; exact .nil
  | [], _, _ :: _, _, h => by simp at h
  | _ :: _, _, [], _, h => by simp at h
  | x :: xs, _, k :: ks, r, h => by
    cases r with
    | cons a b => exact .cons a (each_zip b (by simpa using h))
theorem vals_fst : ∀ {us : List Value} {bs : List (V × Int)}, EachIs (fun (v : Value) (b : V × Int) => RelV b.1 v) us bs → Vals (bs.map (·.1)) us
  | _, _, .nil => .nil
  | _, _, .cons r t => .cons r (vals_fst t)
theorem zip_map2 : ∀ {xs : List V} {ks : List Int}, ks.length = xs.length → (xs.zip ks).map (fun b => PyData.int b.2) = ks.map PyData.int
  | [], [], _ => rfl
  | [], _ :: _, h => by simp at h
  | _ :: _, [], h => by simp at h
  | x :: xs, k :: ks, h => by
    show PyData.int k :: (xs.zip ks).map (fun b => PyData.int b.2) = PyData.int k :: ks.map PyData.int
    rw [zip_map2 (by simpa using h)]
theorem sort_end {b0 : Addr} {a kS : Addr} {H3 : Hp} {s3 : Shared} {ys : List V} {us : List Value} {c tk : Nat} {h' : Heap} (I : Inv X pins σ H3 s3) (hs : s.heap.objs.size ≤ a) (hs2 : s.heap.objs.size ≤ kS) (I0 : Inv X pins σ H s) (na : H3 a = none) {zs : List V} (hk : H3 kS = some (.lst zs)) (hka : kS ≠ a)
    (kp : ∀ b o, b ≠ a → b ≠ kS → s3.heap.get? b = some o → h'.get? b = some o) (he : h'.get? a = some (seqObj "list" us.toArray c)) (rv : Vals ys us) (hz : ys.length ≤ sizeLine) :
    Inv X pins σ (upd (fun b => if b = kS then none else H3 b) a (.lst ys)) { s3 with heap := h', toks := tk } := by
  have fa := I0.fpOk (H' := fun _ => none) hs rfl
  have fk := I0.fpOk (H' := fun _ => none) hs2 rfl
  obtain ⟨_, a1, a2, a3, a4, a5⟩ := fa
  obtain ⟨_, k1, k2, k3, k4, k5⟩ := fk
  have nlk : X.env.locals ≠ kS := fun z => k1 z.symm
  have nla : X.env.locals ≠ a := fun z => a1 z.symm
  have e4 : ∀ b o, H3 b = some o → b ≠ kS → upd (fun b => if b = kS then none else H3 b) a (.lst ys) b = some o := fun b o e hb => by
    have hba : b ≠ a := fun z => by rw [z, na] at e; cases e
    rw [upd_ne hba]
    show (if b = kS then none else H3 b) = some o
    rw [if_neg hb]
    exact e
  refine I.step (g' := s3.gens) (d' := s3.drawn) (ch := [a, kS]) ?_ (fun b o h1 h2 h3 e n => ?_) (fun b o h1 h2 h3 e n => ?_) (fun b o h3 e n => ?_) (fun b o h3 e => ?_) (fun b xs e => ?_) (fun b o u e => ?_) (fun b ps e => ?_) (fun m hm => ?_) ?_ I.bare
  · intro b hb
    rcases List.mem_cons.mp hb with rfl | hb
    · exact ⟨a3, a1, fun x c e z => a4 x c e z, a5⟩
    · rw [List.mem_singleton] at hb
      subst hb
      exact ⟨k3, k1, fun x c e z => k4 x c e z, k5⟩
  · simp only [List.mem_cons, List.not_mem_nil, or_false, not_or] at h3
    exact kp b o h3.1 h3.2 e
  · simp only [List.mem_cons, List.not_mem_nil, or_false, not_or] at h3
    exact ⟨o.slots, kp b o h3.1 h3.2 e⟩
  · simp only [List.mem_cons, List.not_mem_nil, or_false, not_or] at h3
    rw [upd_ne h3.1]
    show (if b = kS then none else H3 b) = none
    rw [if_neg h3.2]
    exact n
  · simp only [List.mem_cons, List.not_mem_nil, or_false, not_or] at h3
    exact ⟨o, kp b o h3.1 h3.2 e⟩
  · exact e4 b _ e fun z => by rw [z, hk] at e; cases e
  · exact e4 b _ e fun z => by rw [z, hk] at e; cases e
  · exact ⟨#[], by rw [e4 b _ e fun z => by rw [z, hk] at e; cases e]; simp⟩
  · obtain ⟨o, es, ep, ho, r⟩ := hm
    exact ⟨o, es, ep, kp _ o nla nlk ho, r⟩
  · intro b o e
    by_cases hb : b = a
    · subst hb
      rw [upd_same] at e
      cases e
      exact ⟨hz, us, c, rv, he⟩
    · rw [upd_ne hb] at e
      have e : (if b = kS then none else H3 b) = some o := e
      by_cases hbk : b = kS
      · rw [if_pos hbk] at e; cases e
      · rw [if_neg hbk] at e
        refine (I.hok b o e).stay (fun d u hd eu => ?_) (fun d ed => e4 d _ ed fun z => by rw [z, hk] at ed; cases ed) fun d xs ed => e4 d _ ed fun z => by rw [z, hk] at ed; cases ed
        refine kp d u (fun z => ?_) (fun z => ?_) eu
        · rcases hd with hd | hd
          · exact hb (hd ▸ z)
          · rw [z, na] at hd; cases hd
        · rcases hd with hd | hd
          · exact hbk (hd ▸ z)
          · rw [z, hk] at hd; cases hd
def KeyTurn (sp : L2.Sp) (H : Hp) (xs : List V) (ks : List Int) : Prop := ∀ (i : Nat) x kk, xs[i]? = some x → ks[i]? = some kk → ∀ H1, Same H H1 → ∀ Q' : VK, (∀ H2, Same H1 H2 → Q' (.int kk) H2) → sp [x] H1 Q' E0
theorem sortBy_run {k : Nat} {a f : Addr} {fd : FuncData} {ps : List Str} {sp : L2.Sp} {xs : List V} {ks : List Int} {Q : VK} (I : Inv X pins σ H s) (F : FnOk X.prog X.w X.K X.mg X.base CX0 k f fd ps sp) (hb : Binds X.K fd ps []) (hr : Room k X.A.in1.in1)
    (hl : SqL X.K H a xs) (hk : ks.length = xs.length) (turn : KeyTurn sp H xs ks)
    (q : ∀ (zs : List (V × Int)) p H1, zs.Perm (xs.zip ks) → zs.Pairwise (fun u v => u.2 ≤ v.2) → Same H H1 → H p = none → H1 p = some (.lst (zs.map (·.1))) → Q (.ref p) H1) :
    wpAny (model X.prog X.w) X.A (call (.builtin "sorted") [.ref a] [(Str.ofString "key", .ref f)]) (EP X pins σ Q) X.xe s := by
  obtain ⟨its, rv, hli, hz⟩ := I.list hl
  have hlen := rv.length
  have hZ : its.length ≤ sizeLine := by rw [← hlen]; exact hz
  refine sorted_of_sort hli.isList hZ (ksk_s1 _ _) (fun _ => ksk_l1 _ _) fun E' => ?_
  rw [ksk_t1]
  have ho := copyHeap_at s.heap its
  obtain ⟨e1, ho1⟩ : ∃ e1, ((copyHeap s.heap its).update (s.heap.objs.size + 1) (Obj.mapSeq fun _ => (#[] : Array Value))).get? (s.heap.objs.size + 1) = some (seqObj "list" #[] e1) := ⟨_, get?_update_seq ho fun _ => #[]⟩
  unfold ksk_tree
  refine wpAny_bind (listItems_at ho rfl ?_)
  refine wpAny_bind (listUpdate_at ho rfl ?_ (by rw [List.size_toArray]; exact hZ) (Nat.zero_le _))
  refine wpAny_bind (seqEpoch_at ho1 rfl ?_)
  refine wpAny_bind (wpAny_newTuple ?_ (by show its.length ≤ _; exact hZ))
  refine wpAny_bind (wpAny_newList ?_ (Nat.zero_le _))
  refine wpAny_holding ?_
  have ha : s.heap.objs.size + 1 < (copyHeap s.heap its).objs.size := Heap.lt_size ho
  have hkS : (((copyHeap s.heap its).update (s.heap.objs.size + 1) (Obj.mapSeq fun _ => (#[] : Array Value))).push (seqObj "tuple" its.toArray 0)).objs.size = (copyHeap s.heap its).objs.size + 1 := by rw [size_push', Heap.size_update]
  generalize eh : (((copyHeap s.heap its).update (s.heap.objs.size + 1) (Obj.mapSeq fun _ => (#[] : Array Value))).push (seqObj "tuple" its.toArray 0)) = h5 at hkS ⊢
  have keep5 : ∀ b o, s.heap.get? b = some o → h5.get? b = some o := fun b o e => by
    rw [← eh]
    refine Heap.get?_push_of_some _ ?_
    rw [Heap.get?_update_ne _ _ _ _ (Nat.ne_of_lt (Nat.lt_succ_of_lt (Heap.lt_size e)))]
    exact copyHeap_old e
  have na5 : h5.get? (s.heap.objs.size + 1) = some (seqObj "list" #[] e1) := by
    rw [← eh]
    exact Heap.get?_push_of_some _ ho1
  have hks : s.heap.objs.size ≤ h5.objs.size := by omega
  have hka : h5.objs.size ≠ s.heap.objs.size + 1 := by omega
  have I6 : Inv X pins σ (upd H h5.objs.size (.lst [])) { s with heap := h5.push (seqObj "list" #[] 0) } := I.laid (t' := s.toks) (fun b o e => Heap.get?_push_of_some _ (keep5 b o e)) hks ⟨Nat.zero_le _, [], 0, .nil, Heap.get?_push_size _ rfl⟩
  have fa := I.fpOk (H' := H) (b := s.heap.objs.size + 1) (Nat.le_succ _) (I.hok.fresh (Nat.le_succ _))
  obtain ⟨f0, f1, f2, _⟩ := fa
  have I7 : Inv X (pins ++ [(s.heap.objs.size + 1, seqObj "list" #[] e1)]) σ (upd H h5.objs.size (.lst [])) { s with heap := h5.push (seqObj "list" #[] 0) } := I6.pins_of fun p hp => by
    rcases List.mem_append.mp hp with hp | hp
    · exact I6.pin p (List.mem_append_right _ hp)
    · rw [List.mem_singleton] at hp
      subst hp
      refine ⟨Heap.get?_push_of_some _ na5, ?_, f1, f2, fun v z => nomatch z⟩
      rw [upd_ne hka.symm]
      exact f0
  unfold ksk_rest
  refine wpAny_bind (wpAny_rule ?_)
  rw [List.forIn_toArray]
  refine wpAny_bind (ksk_fold (fun i s' => ∃ H', Inv X (pins ++ [(s.heap.objs.size + 1, seqObj "list" #[] e1)]) σ H' s' ∧ Same H H' ∧ H' h5.objs.size = some (.lst ((ks.take i).map V.int))) its 0 _
    ⟨_, I7, same_new (I.hok.fresh hks), by rw [upd_same, List.take_zero]; rfl⟩ ?step ?done)
  case step =>
    rintro j u s' hu ⟨H', I', sa, ek⟩
    simp only [Nat.zero_add] at ek ⊢
    have hj : j < its.length := (List.getElem?_eq_some_iff.mp hu).1
    have hjx : j < xs.length := by omega
    have hjk : j < ks.length := by omega
    have hxj : xs[j]? = some xs[j] := List.getElem?_eq_getElem hjx
    have hkj : ks[j]? = some ks[j] := List.getElem?_eq_getElem hjk
    obtain ⟨u', eu', ru⟩ := Vals.get rv hxj
    rw [hu] at eu'
    cases eu'
    refine wpAny_bind (wpAny_attempt (wpAny_mono (call_in2 (E' := fun _ _ => False) F hb hr I' ru (Q := fun z H2 => z = .int ks[j] ∧ Same H' H2) (turn j _ _ hxj hkj H' sa _ fun H2 s2 => ⟨rfl, s2⟩)) (fun v s'' he => ?_) fun _ _ hF => hF.elim))
    obtain ⟨z, H2, I2, rz, rfl, s2⟩ := he
    try dsimp only
    have ek2 := s2 _ _ ek
    obtain ⟨hz2, its2, n2, rv2, e2⟩ := I2.hok _ _ ek2
    obtain ⟨c2, hc2⟩ : ∃ c2, (s''.heap.update h5.objs.size (Obj.mapSeq (·.push v))).get? h5.objs.size = some (seqObj "list" (its2.toArray.push v) c2) := ⟨_, get?_update_seq e2 (·.push v)⟩
    have hl2 : its2.length ≤ sizeLine := by rw [← rv2.length]; exact hz2
    have etk : (ks.take (j + 1)).map V.int = (ks.take j).map V.int ++ [.int ks[j]] := by rw [List.take_add_one, hkj, List.map_append]; rfl
    refine wpAny_bind (listUpdate_at e2 rfl ?_ (by rw [List.size_toArray]; exact hl2) (by rw [Array.size_push, List.size_toArray]; exact Nat.succ_le_succ hl2))
    refine wpAny_pure ⟨rfl, upd H2 h5.objs.size (.lst ((ks.take (j + 1)).map V.int)), ?_, ?_, upd_same⟩
    · refine I2.write (x := h5.objs.size) (e := h5.objs.size) (t' := s''.toks) (by rw [ek2]; trivial) (.inl rfl) (fun b o hb' e => (Heap.get?_update_ne _ _ _ _ hb').trans e) ⟨_, hc2⟩ ⟨?_, its2 ++ [v], c2, ?_, by rw [hc2]; simp⟩
      · rw [etk, List.length_append]
        have : ((ks.take j).map V.int).length = its2.length := rv2.length
        have h3 : ((ks.take j).map V.int).length ≤ ks.length := by rw [List.length_map, List.length_take]; omega
        have h4 : ((ks.take j).map V.int).length = j := by rw [List.length_map, List.length_take]; omega
        rw [h4]
        show j + 1 ≤ sizeLine
        omega
      · rw [etk]
        exact rv2.append (.cons rz .nil)
    · intro b o e
      have e3 := s2 _ _ (sa b o e)
      rw [upd_ne (ne_of_none e (I.hok.fresh hks))]
      exact e3
  case done =>
    rintro s' ⟨H3, I3, sa, ek⟩
    have et : ks.take (0 + its.length) = ks := List.take_of_length_le (by omega)
    rw [et] at ek
    obtain ⟨hz3, its3, n3, rv3, e3⟩ := I3.hok _ _ ek
    have pa := I3.pin (s.heap.objs.size + 1, seqObj "list" #[] e1) (List.mem_append_right _ (List.mem_append_right _ (by simp)))
    try dsimp only
    refine wpAny_bind (listItems_at e3 rfl ?_)
    have hl3 : its3.length = its.length := by
      have := rv3.length
      rw [List.length_map] at this
      omega
    have hal : AllAlike (ks.map PyData.int) := fun d hd d' hd' => by
      obtain ⟨_, _, rfl⟩ := List.mem_map.mp hd
      obtain ⟨_, _, rfl⟩ := List.mem_map.mp hd'
      rfl
    have hso : Sortable (ks.map PyData.int) := .inr fun d hd => by
      obtain ⟨_, _, rfl⟩ := List.mem_map.mp hd
      exact ⟨fun z => (nomatch z), fun xs z => (nomatch z)⟩
    have hun : ∀ d, d ∈ ks.map PyData.int → X.A.in1.in1.units + d.depth < cLine := fun d hd => by
      obtain ⟨_, _, rfl⟩ := List.mem_map.mp hd
      have := hr.un
      show X.A.in1.in1.units + 0 < cLine
      omega
    refine keyH_end (κ := dataKind s'.heap (ks.map PyData.int)) (b := false) (vs := its) (h₁ := hideAll s'.heap [h5.objs.size]) (a := s.heap.objs.size + 1) (kS := h5.objs.size) (fun b o _ e => of_hideAll _ e) (hideAll_none _ (by simp)) e3 pa.1 hka ?_ (by rw [List.size_toArray]; exact hl3) hZ fun h6 tk c kp he => ?_
    · rw [List.toList_toArray]
      exact SortsAt.data (reads_map rv3) hal hso hun
    · refine ⟨rfl, ?_⟩
      rw [List.toList_toArray] at he
      have ko : KeyedOut false ((xs.zip ks).map fun b => PyData.int b.2) its (sortVals (dataKind s'.heap (ks.map PyData.int)) false its3 its) := by
        rw [zip_map2 hk]
        exact ⟨s'.heap, its3, hal, rfl, reads_map rv3⟩
      have hout := keyedOut_each (fun b : V × Int => PyData.int b.2) ko (each_zip rv hk)
      rw [dataLe_int] at hout
      have hv := vals_fst hout
      have hp : ((xs.zip ks).mergeSort fun a b => decide (a.2 ≤ b.2)).Perm (xs.zip ks) := List.mergeSort_perm _ _
      have hpw := List.pairwise_mergeSort (le := fun a b : V × Int => decide (a.2 ≤ b.2)) (fun a b c h1 h2 => by simp only [decide_eq_true_eq] at *; omega) (fun a b => by simp only [Bool.or_eq_true, decide_eq_true_eq]; omega) (xs.zip ks)
      have hq : ∀ b o, H b = some o → upd (fun b => if b = h5.objs.size then none else H3 b) (s.heap.objs.size + 1) (.lst (((xs.zip ks).mergeSort fun a b => decide (a.2 ≤ b.2)).map (·.1))) b = some o := fun b o e => by
        rw [upd_ne (ne_of_none e f0)]
        show (if b = h5.objs.size then none else H3 b) = some o
        rw [if_neg (ne_of_none e (I.hok.fresh hks))]
        exact sa b o e
      have qq := q _ _ _ hp (hpw.imp fun h => by simpa using h) hq f0 upd_same
      refine ⟨.ref (s.heap.objs.size + 1), _, ?_, rfl, qq⟩
      refine sort_end (b0 := 0) (us := sortVals (dataKind s'.heap (ks.map PyData.int)) false its3 its) (c := c) I3.unpinned (Nat.le_succ _) hks I pa.2.1 ek hka (fun b o h1 h2 e => kp b o h1 (hideAll_get _ e (by simpa using h2))) he hv ?_
      rw [List.length_map, hp.length_eq, List.length_zip]
      omega
end
end Still

set_option Elab.async false
set_option linter.all false
set_option maxRecDepth 100000
set_option maxHeartbeats 4000000
namespace Still
open PySem PySem.Spec PyProof.Rows L2
section
variable {w : World} {K : PySem.W.Frag} {mg : Str → Option Value} {base : Heap}
variable {σ : L2.St} {X : AX} {H : Hp} {ta tb tc td te : TE}
/-! sorted by lead -/
def rSortBy (K : PySem.W.Frag) (mg : Str → Option Value) (x : Str) (sp : L2.Sp) : List V → List V → Hp → VK → Prop := fun vs zs H Q => ∃ (a f : Addr) (xs : List V) (ks : List Int), vs = [.ref a] ∧ zs = [.ref f] ∧ mg x = some (.ref f) ∧ SqL K H a xs ∧ ks.length = xs.length ∧ KeyTurn sp H xs ks ∧
  ∀ (zs : List (V × Int)) p H1, zs.Perm (xs.zip ks) → zs.Pairwise (fun u v => u.2 ≤ v.2) → Same H H1 → H p = none → H1 p = some (.lst (zs.map (·.1))) → Q (.ref p) H1
theorem cr_sortedBy {X : Cx} {j k : Nat} {x : Str} {sp : L2.Sp} (c : Ct X.w X.K X.mg X.base k x sp) (hr : Room j X.A) (hk : k + 1 ≤ j) (hp : X.prog = prg := by rfl) : CallRK X (.builtin "sorted") [Str.ofString "key"] (rSortBy X.K X.mg x sp) := by
  intro pins s σ H vs zs us ws Q I r rz h
  obtain ⟨a, f, xs, ks, rfl, rfl, hf, hs, hl, turn, q⟩ := h
  obtain ⟨f', fd, ps, F, hm, kp, hb⟩ := c
  rw [hf] at hm
  cases hm
  rw [← hp] at F
  obtain rfl := Vals.ref1 r
  obtain ⟨w1, rfl, e1⟩ := vals1 rz
  obtain rfl : w1 = Value.ref f := e1
  have hr2 : Room k X.A.in1.in1 := ⟨hr.hd, by
    have := hr.dp
    show X.A.depth + 3 * k + 5 < _
    omega, by
    have := hr.un
    show X.A.units + 1 + 1 + 16 * k + 200 < _
    omega⟩
  exact sortBy_run I F hb hr2 hs hl turn q
def tKey (mg : Str → Option Value) (x : Str) : TE := fun σ H Q => ∀ f, mg x = some (.ref f) → Q (.ref f) H
theorem pe_key {X : Cx} {k : Nat} {sp : L2.Sp} {pos : Pos} (c : Ct X.w X.K X.mg X.base k "lead" sp) (hg : Gl X "lead") : PE X (.Name "lead" pos) (tKey X.mg "lead") := by
  obtain ⟨f, fd, ps, F, hm, kp, hb⟩ := c
  refine ⟨fun pins s σ H Q I h => ?_⟩
  exact (pe_glob (v := .ref f) hg hm rfl).run pins s σ H Q I (h f hm)
theorem perm_unmap {α β : Type} (f : α → β) {l m' : List β} (h : l.Perm m') : ∀ m : List α, m' = m.map f → ∃ l' : List α, l'.Perm m ∧ l = l'.map f := by
  induction h with
  | nil => intro m e; exact ⟨[], by rw [List.map_eq_nil_iff.mp e.symm], rfl⟩
  | cons x _ ih =>
    intro m e
    cases m with
    | nil => simp at e
    | cons y m =>
      simp only [List.map_cons, List.cons.injEq] at e
      obtain ⟨l', h1, h2⟩ := ih m e.2
      exact ⟨y :: l', h1.cons y, by rw [List.map_cons, h2, e.1]⟩
  | swap x y l =>
    intro m e
    match m, e with
    | a :: b :: m, e =>
      simp only [List.map_cons, List.cons.injEq] at e
      exact ⟨b :: a :: m, List.Perm.swap a b m, by rw [List.map_cons, List.map_cons, e.1, e.2.1, e.2.2]⟩
    | [_], e => simp at e
    | [], e => simp at e
  | trans _ _ ih1 ih2 =>
    intro m e
    obtain ⟨l', h1, h2⟩ := ih2 m e
    obtain ⟨l'', h3, h4⟩ := ih1 l' h2
    exact ⟨l'', h3.trans h1, h4⟩
theorem en_sortBy {q : Pm} {found res : List (List (Fq q))} (hmg : ∃ f, mg "lead" = some (.ref f)) (h : EvP ta σ X H (oRows found)) (hd : ∀ r, r ∈ found → leadM r = some (ld r)) (hres : ∀ p : List (List (Fq q)), p.Perm found → p.Pairwise (fun r s => ld r ≤ ld s) → p = res) :
    EvP (tCKw (rSortBy K mg "lead" sp_lead) (tCons ta tNil) (tCons (tKey mg "lead") tNil)) σ X H (oRows res) := fun Y H1 l Q post =>
  h Y H1 l _ fun H2 v s o => by
    intro f hf
    obtain ⟨a, vs, rfl, n, e, it, b⟩ := o.its
    refine ⟨a, f, vs, found.map fun r => (ld r : Int), rfl, rfl, hf, .inl (.inl e), by rw [List.length_map, it.1], ?_, ?_⟩
    · intro i x kk hx hk H3 s3 Q' q'
      rw [List.getElem?_map] at hk
      cases hfi : found[i]? with
      | none => rw [hfi] at hk; simp at hk
      | some r =>
        rw [hfi] at hk
        have hk : some (ld r : Int) = some kk := hk
        cases hk
        refine ⟨(⟨q, r⟩ : (q : Pm) × List (Fq q)), Y, (l.kn.same s).same s3, ⟨x, rfl, rsm s3 (it.2 i x r hx hfi)⟩, fun H4 v s4 o4 => ?_⟩
        have o4 : oO oN (leadM r) Y H4 v := o4
        rw [hd r (List.mem_of_getElem? hfi)] at o4
        have ev : v = .int (ld r : Int) := o4
        rw [ev]
        exact q' H4 s4
    · intro zs p H3 hp hs s3 np e3
      have ez : vs.zip (found.map fun r => (ld r : Int)) = (vs.zip found).map fun u => (u.1, (ld u.2 : Int)) := by
        rw [List.zip_map_right]; rfl
      rw [ez] at hp
      obtain ⟨ts, h1, h2⟩ := perm_unmap _ hp _ rfl
      subst h2
      have hr := hres (ts.map (·.2)) (by
        have := h1.map (·.2)
        rw [List.map_snd_zip (by rw [it.1]; exact Nat.le_refl _)] at this
        exact this) (by
        rw [List.pairwise_map] at hs ⊢
        exact hs.imp fun h => by simpa using h)
      refine post H3 (.ref p) (s.trans s3) ?_
      rw [← hr]
      refine oL.mk (notKn (l.kn.same s) np) (vs := ts.map (·.1)) (by rw [e3, List.map_map]; rfl) ⟨by simp, fun i u r e1 e2 => ?_⟩ ?_
      · rw [List.getElem?_map] at e1 e2
        cases et : ts[i]? with
        | none => rw [et] at e1; simp at e1
        | some t =>
          rw [et] at e1 e2
          have e1 : some t.1 = some u := e1
          have e2 : some t.2 = some r := e2
          cases e1
          cases e2
          have hm := h1.mem_iff.mp (List.mem_of_getElem? et)
          obtain ⟨j, hj⟩ := List.getElem?_of_mem hm
          rw [List.getElem?_zip_eq_some] at hj
          exact rsm s3 (it.2 j _ _ hj.1 hj.2)
      · rw [List.length_map, h1.length_eq, List.length_zip]
        omega
/-! def with_row: slots 0=p 1=form 2=row 3=rest 4=at 5=found 6=other -/
abbrev N_with_row : List Str := ["p", "form", "row", "rest", "at", "found", "other"]
theorem sc_with_row : FnScope N_with_row ["p", "form", "row"] (defScope (topS 11)) := ⟨rfl, rfl, rfl, by decide +kernel, rfl, by decide +kernel, by decide +kernel⟩
structure WrOk {q : Pm} (n : Nat) (form : List (List (Fq q))) (x : List (Fq q)) : Prop where
  lo : Lo n form
  len : x.length = n
def sp_with_row : L2.Sp := mkSp (ι := (q : Pm) × Nat × List (List (Fq q)) × List (Fq q)) (fun i X H vs => WrOk i.2.1 i.2.2.1 i.2.2.2 ∧ a3 (oN i.1.n) (oRows i.2.2.1) (oRow i.2.2.2) X H vs) (fun i => oRows (wrM i.2.2.1 i.2.2.2))
theorem ev_with_row {q : Pm} {n : Nat} {form : List (List (Fq q))} {x : List (Fq q)} (hp : Lo n form) (hx : x.length = n) (h1 : EvP ta σ X H (oN q.n)) (h2 : EvP tb σ X H (oRows form)) (h3 : EvP tc σ X H (oRow x)) :
    EvP (tCall sp_with_row [] E0 (tCons ta (tCons tb (tCons tc tNil)))) σ X H (oRows (wrM form x)) :=
  ev_call (⟨q, n, form, x⟩ : (q : Pm) × Nat × List (List (Fq q)) × List (Fq q)) (EvA.pre ⟨hp, hx⟩ (ea3 h1 h2 h3))
theorem Ct.got {k : Nat} {x : Str} {sp : L2.Sp} (c : Ct w K mg base k x sp) : ∃ f, mg x = some (.ref f) := by
  obtain ⟨f, _, _, _, h, _⟩ := c
  exact ⟨f, h⟩
theorem c_with_row (c_left_of : Ct w K mg base 3 "left_of" sp_left_of) (c_lead : Ct w K mg base 2 "lead" sp_lead) (c_scaled : Ct w K mg base 1 "scaled" sp_scaled) (c_contrary_rest : Ct w K mg base 1 "contrary_rest" sp_contrary_rest) (c_taken : Ct w K mg base 1 "taken" sp_taken) (T : Tp K mg) : Ct w K mg base 4 "with_row" sp_with_row := by
  refine ct_mk T (i := 11) (by decide) sc_with_row (fun _ _ _ _ _ _ us hl => match us, hl with | [_, _, _], _ => rfl) (mkSp_len fun i X H vs h => ?_) fun f cdv A outer s H vs Q E hr h => ?_
  · exact a3_len h.2
  · obtain ⟨⟨q, n, form, x⟩, X, k, ⟨⟨hp, hx⟩, u1, u2, u3, rfl, h1, h2, h3⟩, post⟩ := h
    dsimp only at hp hx h1 h2 h3 post
    have nd := sc_with_row.nd
    refine ⟨_, PSs.nox (pss_cons (ps_set (i := 3) nd rfl (.inr rfl) (pe_ct c_left_of hr (by decide) (by rfl) (pa_cons (pv 0) (pa_cons (pv 1) (pa_cons (pv 2) pa_nil)))))
  (pss_cons (ps_set (i := 4) nd rfl (.inr rfl) (pe_ct c_lead hr (by decide) (by rfl) (pa_cons (pv 3) pa_nil)))
  (pss_cons (ps_if (pt_cmpR op_isN (pv 4) pe_non (nomark _))
    (pss_one (ps_ret (pv 1))) pss_nil)
  (pss_cons (ps_set (i := 3) nd rfl (.inr rfl) (pe_ct c_scaled hr (by decide) (by rfl) (pa_cons (pv 0) (pa_cons (pe_ct c_contrary_rest hr (by decide) (by rfl) (pa_cons (pv 0) (pa_cons (pe_ix (ix_listK K) (pv 3) (pv 4) (fun _ _ => rfl)) pa_nil))) (pa_cons (pv 3) pa_nil)))))
  (pss_cons (ps_set (i := 5) nd rfl (.inl rfl) (pe_op op_cat (pe_lc (own := [("other", 6)]) (g := gName 6) (tt := tYes) rfl nd (pi_listK K (pv 1)) (blkOk_by (N := N_with_row) (sc := (defScope (topS 11))) (by decide +kernel)) (fun _ _ _ _ _ => pg_name (i := 6) nd rfl (Or.inl rfl)) (fun _ _ _ _ _ => pts_nil) (fun _ _ _ _ _ => pe_ct c_taken hr (by decide) (by rfl) (pa_cons (pv 0) (pa_cons (pv 6) (pa_cons (pe_ix (ix_listK K) (pv 6) (pv 4) (fun _ _ => rfl)) (pa_cons (pv 3) pa_nil)))))) (pe_lst (pa_cons (pv 3) pa_nil))))
  (pss_one (ps_ret (pe_callBK (cr_sortedBy c_lead hr (by decide)) (by rfl) (T.fr "sorted" (by decide)) (by decide +kernel) (pa_cons (pv 5) pa_nil) (pk_cons (pe_key c_lead (by rfl)) pk_nil))))))))), ?_⟩
    refine s_set k (ev_left_of hp.toPre hx (ev_var rfl h1) (ev_var rfl h2) (ev_var rfl h3)) fun H1 v1 s1 o1 => ?_
    have k1 := k.same s1
    have l1 := Lt.of k s1
    refine s_set k1 (ev_lead (ev_var rfl o1)) fun H2 v2 s2 o2 => ?_
    have k2 := k1.same s2
    have l2 := l1.same s2
    refine s_if k2 (et_test (ev_isNone oN_non (ev_var rfl o2))) (fun hb H3 s3 => ?_) fun hb H3 s3 => ?_
    · refine s_ret (k2.same s3) (ev_var rfl (up (l2.same s3) h2)) fun H4 v4 s4 o4 => post H4 v4 (((s1.trans s2).trans s3).trans s4) ?_
      have hn : leadM (leftM form x) = none := of_decide_eq_true hb
      unfold wrM
      rw [hn]
      exact o4
    · have hb2 : leadM (leftM form x) ≠ none := of_decide_eq_false hb
      obtain ⟨a, ha⟩ := Option.ne_none_iff_exists'.mp hb2
      rw [ha] at o2
      have hnz := (lead_some.mp ha).1
      have hll := left_len hp.row hx
      have hal : a < (leftM form x).length := by
        apply Nat.lt_of_not_le
        intro z
        exact hnz (vc_ge z)
      have k3 := k2.same s3
      have l3 := l2.same s3
      have o1' := rsm (s2.trans s3) o1
      have o2' := rsm s3 o2
      have st := wr_st hp.toPre hx ha
      refine s_set k3 (ev_scaled (ev_var rfl (up l3 h1)) (ev_contrary_rest hnz (ev_var rfl (up l3 h1)) (ev_ix (i := a) (ev_var rfl o1') (ev_var rfl o2') (vc_get hal))) (ev_var rfl o1')) fun H4 v4 s4 o4 => ?_
      have o4 : oRow (norM (leftM form x) a) X H4 v4 := o4
      have k4 := k3.same s4
      have l4 := l3.same s4
      have hlen : (fndM form (norM (leftM form x) a) a).length ≤ 5000 := by
        have h5 := lo_len (fnd_pre hp.toPre st)
        have h6 := oL_len h3
        omega
      refine s_set k4 (((en_cat (R := fun r : List (Fq q) => oRow r) ((en_map (R' := fun r : List (Fq q) => oRow r) (fun o => tkM o (vc o a) (norM (leftM form x) a)) (ei_list (ev_var rfl (up l4 h2))) (oL_len h2) fun o ho Y H5 v5 l5 rv => ?_).ev (by rw [List.length_map]; exact oL_len h2)) ((en_one (R := fun r : List (Fq q) => oRow r) (ev_var rfl o4)).ev (by simp))).ev hlen)) fun H5 v5 s5 o5 => ?_
      · refine ⟨_, tg1, rfl, ?_⟩
        have l5' := l4.trans l5
        exact ev_taken (by rw [hp.row o ho, st.len]) (ev_var rfl (up l5' h1)) (ev_var rfl rv) (ev_ix (i := a) (ev_var rfl rv) (ev_var rfl (up l5 (rsm s4 o2'))) (vc_get (by rw [hp.row o ho]; omega))) (ev_var rfl (up l5 o4))
      · have k5 := k4.same s5
        have o5 : oRows (fndM form (norM (leftM form x) a) a) X H5 v5 := o5
        refine s_ret k5 (en_sortBy c_lead.got (ev_var rfl o5) (fnd_pre hp.toPre st).hd fun p h1 h2 => wr_eq hp hx ha h1 h2) fun H6 v6 s6 o6 => post H6 v6 ((((s1.trans s2).trans s3).trans s4).trans (s5.trans s6)) o6
/-! def low: slots 0=p 1=rows 2=form 3=row -/
abbrev N_low : List Str := ["p", "rows", "form", "row"]
theorem sc_low : FnScope N_low ["p", "rows"] (defScope (topS 12)) := ⟨rfl, rfl, rfl, by decide +kernel, rfl, by decide +kernel, by decide +kernel⟩
structure LowOk {q : Pm} (n : Nat) (rows : List (List (Fq q))) : Prop where
  row : ∀ r, r ∈ rows → r.length = n
def sp_low : L2.Sp := mkSp (ι := (q : Pm) × Nat × List (List (Fq q))) (fun i X H vs => LowOk i.2.1 i.2.2 ∧ a2 (oN i.1.n) (oRows i.2.2) X H vs) (fun i => oRows (lowM i.2.2))
theorem ev_low {q : Pm} {n : Nat} {rows : List (List (Fq q))} (hr : ∀ r, r ∈ rows → r.length = n) (h1 : EvP ta σ X H (oN q.n)) (h2 : EvP tb σ X H (oRows rows)) : EvP (tCall sp_low [] E0 (tCons ta (tCons tb tNil))) σ X H (oRows (lowM rows)) :=
  ev_call (⟨q, n, rows⟩ : (q : Pm) × Nat × List (List (Fq q))) (EvA.pre ⟨hr⟩ (ea2 h1 h2))
theorem c_low (c_with_row : Ct w K mg base 4 "with_row" sp_with_row) (T : Tp K mg) : Ct w K mg base 5 "low" sp_low := by
  refine ct_mk T (i := 12) (by decide) sc_low (fun _ _ _ _ _ _ us hl => match us, hl with | [_, _], _ => rfl) (mkSp_len fun i X H vs h => ?_) fun f cdv A outer s H vs Q E hr h => ?_
  · exact a2_len h.2
  · obtain ⟨⟨q, n, rows⟩, X, k, ⟨⟨hrow⟩, u1, u2, rfl, h1, h2⟩, post⟩ := h
    dsimp only at hrow h1 h2 post
    have nd := sc_low.nd
    refine ⟨_, PSs.nox (pss_cons (ps_set (i := 2) nd rfl (.inl rfl) (pe_lst pa_nil))
  (pss_cons (ps_for PassesOwn.never rfl (pi_listK K (pv 1)) (pg_name (i := 3) nd rfl (Or.inl rfl))
    (pss_one (ps_set (i := 2) nd rfl (.inl rfl) (pe_ct c_with_row hr (by decide) (by rfl) (pa_cons (pv 0) (pa_cons (pv 2) (pa_cons (pv 3) pa_nil)))))))
  (pss_one (ps_ret (pe_lc (own := [("row", 3)]) (g := gName 3) (tt := tYes) rfl nd (pi_listK K (pv 2)) (blkOk_by (N := N_low) (sc := (defScope (topS 12))) (by decide +kernel)) (fun _ _ _ _ _ => pg_name (i := 3) nd rfl (Or.inl rfl)) (fun _ _ _ _ _ => pts_nil) (fun _ _ _ _ _ => pe_callTy (call_listK K) (by rfl) (T.fr "list" (by decide)) (by decide +kernel) (pa_cons (pv 3) pa_nil))))))), ?_⟩
    refine s_set k (en_nil (R := fun r : List (Fq q) => oRow r) |>.ev (by simp)) fun H1 v1 s1 o1 => ?_
    have k1 := k.same s1
    have l1 := Lt.of k s1
    refine s_for k1 (ei_list (ev_var rfl (up l1 h2))) fun H2 s2 l2 => ?_
    have hsub : ∀ i, ∀ r, r ∈ rows.take i → r.length = n := fun i r hr => hrow r (List.mem_of_mem_take hr)
    refine ⟨fun i σ1 H3 => (∃ z vf, σ1 = [some u1, some u2, some vf, z] ∧ oRows (lowM (rows.take i)) X H3 vf) ∧ Same H H3, ⟨⟨none, v1, rfl, by rw [List.take_zero]; exact rsm s2 o1⟩, s1.trans s2⟩, ?_, ?_⟩
    · rintro i o σ1 H3 H4 vo ho l3 ⟨⟨z, vf, rfl, hf⟩, sa⟩ s4 hvo
      have l4 := l3.same s4
      have lk := l1.trans (l2.trans l4)
      refine tg1 _ ?_
      refine s_set1 l4.kn (ev_with_row (low_lo (hsub i)) (hrow o (List.mem_of_getElem? ho)) (ev_var rfl (up lk h1)) (ev_var rfl (rsm s4 hf)) (ev_var rfl hvo)) fun H5 v5 s5 o5 => ?_
      refine ⟨⟨⟨_, _, rfl, ?_⟩, (sa.trans s4).trans s5⟩, l4.same s5⟩
      unfold lowM
      rw [take_fold _ _ ho]
      exact o5
    · rintro σ1 H3 l3 ⟨⟨z, vf, rfl, hf⟩, sa⟩
      rw [take_all] at hf
      have hm := (en_map (σ := [some u1, some u2, some vf, z]) (g := gName 3) (te := tCB (rListK K) (tCons (tVar 3) tNil)) (ss := [3]) (R' := fun r : List (Fq q) => oRow r) (fun r => r) (ei_list (K := K) (ev_var (i := 2) rfl hf)) (oL_len hf) fun o ho Y H5 v5 l5 rv => ⟨_, tg1, rfl, (en_list (ev_var rfl rv)).ev (oL_len rv)⟩)
      rw [List.map_id'] at hm
      exact s_ret l3.kn (hm.ev (oL_len hf)) fun H5 v5 s5 o5 => post H5 v5 (sa.trans s5) o5
end
end Still

set_option Elab.async false
set_option linter.all false
set_option maxRecDepth 100000
set_option maxHeartbeats 4000000
namespace Still
open PySem PySem.Spec PyProof.Rows L2
section
variable {α β : Type} {K : PySem.W.Frag}
variable {σ : L2.St} {X Y : AX} {H H1 : Hp} {ta tb tc td te : TE} {A B C O : Ob} {R : α → Ob} {R' : β → Ob}
/-! isinstance -/
theorem ev_isiL {xs : List α} {n : String} {b : Bool} (hb : kitB "list" n = some b) (h : EvP ta σ X H (oL R xs)) : EvP (tCB (rIsi K) (tCons ta (tCons (tC (.ty n)) tNil))) σ X H (oB b) := fun Y H1 l Q q =>
  h Y H1 l _ fun H2 v s o => by
    obtain ⟨a, vs, rfl, nx, e, it, bd⟩ := o.its
    exact ⟨.ref a, .ty n, .type "list", .type n, b, rfl, .ty n, .base (.lst e), kit_ty hb, q H2 _ s rfl⟩
theorem ev_isiI {i : Int} {n : String} {b : Bool} (hb : kitB "int" n = some b) (h : EvP ta σ X H (oI i)) : EvP (tCB (rIsi K) (tCons ta (tCons (tC (.ty n)) tNil))) σ X H (oB b) := fun Y H1 l Q q =>
  h Y H1 l _ fun H2 v s o => by
    have e : v = .int i := o
    subst e
    exact ⟨.int i, .ty n, .type "int", .type n, b, rfl, .ty n, .base (.int i), kit_ty hb, q H2 _ s rfl⟩
/-! chains -/
theorem ev_chain {g g' : Int → Int → Bool} {i j k : Int} (ha : EvP ta σ X H (oI i)) (hb : EvP tb σ X H (oI j)) (hc : EvP tc σ X H (oI k)) : EvP (tChain (rI0 fun i j => .bl (g i j)) (rI0 fun i j => .bl (g' i j)) ta tb tc) σ X H (oB (g i j && g' j k)) := fun Y H1 l Q q =>
  ha Y H1 l _ fun H2 x s ox => hb Y H2 (l.same s) _ fun H3 y s2 oy => by
    refine ⟨i, j, ox, oy, g i j, rfl, ?_⟩
    cases hg : g i j with
    | false => exact q H3 _ (s.trans s2) (by show V.bl _ = V.bl _; rw [hg]; rfl)
    | true => exact hc Y H3 ((l.same s).same s2) _ fun H4 z s3 oz => ⟨j, k, oy, oz, q H4 _ ((s.trans s2).trans s3) (by show V.bl _ = V.bl _; rw [hg]; rfl)⟩
/-! all of a list of truths -/
theorem ev_all {bs : List Bool} (h : EvP ta σ X H (oL (fun b : Bool => oB b) bs)) : EvP (tCB (rAll K) (tCons ta tNil)) σ X H (oB (bs.all id)) := fun Y H1 l Q q =>
  h Y H1 l _ fun H2 v s o => by
    obtain ⟨a, vs, rfl, nx, e, it, bd⟩ := o.its
    have ev := it.flat (f := V.bl)
    subst ev
    exact ⟨a, bs, rfl, .inl (.inl e), q H2 _ s rfl⟩
theorem ev_allM {xs : List α} {f : α → Bool} (h : EvP ta σ X H (oL (fun b : Bool => oB b) (xs.map f))) : EvP (tCB (rAll K) (tCons ta tNil)) σ X H (oB (xs.all f)) :=
  (ev_all h).eq (by rw [List.all_map]; rfl)
/-! a whole number of a truth -/
theorem ev_intB {b : Bool} (h : EvP ta σ X H (oB b)) : EvP (tCB (fun xs H Q => (∃ i, xs = [.int i] ∧ Q (.int i) H) ∨ ∃ k, xs = [.bl k] ∧ Q (.int (if k then 1 else 0)) H) (tCons ta tNil)) σ X H (oI (if b then 1 else 0)) := fun Y H1 l Q q =>
  h Y H1 l _ fun H2 v s o => by
    have e : v = .bl b := o
    subst e
    exact .inr ⟨b, rfl, q H2 _ s rfl⟩
/-! tuples -/
theorem ev_tup2 [Rep A] [Rep B] (ha : EvP ta σ X H A) (hb : EvP tb σ X H B) : EvP (tTup (tCons ta (tCons tb tNil))) σ X H (oP A B) := fun Y H1 l Q q =>
  ha Y H1 l _ fun H2 x s ox => hb Y H2 (l.same s) _ fun H3 y s2 oy => ⟨(by decide : 2 ≤ sizeLine), fun p np => by
    have sn := same_new (o := .tup [x, y]) np
    exact q _ _ ((s.trans s2).trans sn) ⟨p, x, y, rfl, notKn ((l.kn.same s).same s2) np, upd_same, rsm (s2.trans sn) ox, rsm sn oy⟩⟩
theorem ev_tup3 [Rep A] [Rep B] [Rep C] (ha : EvP ta σ X H A) (hb : EvP tb σ X H B) (hc : EvP tc σ X H C) : EvP (tTup (tCons ta (tCons tb (tCons tc tNil)))) σ X H (oP3 A B C) := fun Y H1 l Q q =>
  ha Y H1 l _ fun H2 x s ox => hb Y H2 (l.same s) _ fun H3 y s2 oy => hc Y H3 ((l.same s).same s2) _ fun H4 z s3 oz => ⟨(by decide : 3 ≤ sizeLine), fun p np => by
    have sn := same_new (o := .tup [x, y, z]) np
    exact q _ _ (((s.trans s2).trans s3).trans sn) ⟨p, x, y, z, rfl, notKn (((l.kn.same s).same s2).same s3) np, upd_same, rsm ((s2.trans s3).trans sn) ox, rsm (s3.trans sn) oy, rsm sn oz⟩⟩
theorem atI0 {x : V} {r : List V} : atI (x :: r) 0 = some x := atI_nat (j := 0) rfl
theorem atI1 {x y : V} {r : List V} : atI (x :: y :: r) 1 = some y := atI_nat (j := 1) rfl
theorem atI2 {x y z : V} {r : List V} : atI (x :: y :: z :: r) 2 = some z := atI_nat (j := 2) rfl
theorem ev_t0 (ha : EvP ta σ X H (oP3 A B C)) : EvP (tOp (rIxT K) ta (tC (.int 0))) σ X H A := fun Y H1 l Q q =>
  ha Y H1 l _ fun H2 v s ⟨a, x, y, z, e, n, h, hx, hy, hz⟩ => ⟨a, _, 0, x, e, rfl, .inl (.inl h), atI0, q H2 x s hx⟩
theorem ev_t1 (ha : EvP ta σ X H (oP3 A B C)) : EvP (tOp (rIxT K) ta (tC (.int 1))) σ X H B := fun Y H1 l Q q =>
  ha Y H1 l _ fun H2 v s ⟨a, x, y, z, e, n, h, hx, hy, hz⟩ => ⟨a, _, 1, y, e, rfl, .inl (.inl h), atI1, q H2 y s hy⟩
theorem ev_t2 (ha : EvP ta σ X H (oP3 A B C)) : EvP (tOp (rIxT K) ta (tC (.int 2))) σ X H C := fun Y H1 l Q q =>
  ha Y H1 l _ fun H2 v s ⟨a, x, y, z, e, n, h, hx, hy, hz⟩ => ⟨a, _, 2, z, e, rfl, .inl (.inl h), atI2, q H2 z s hz⟩
variable {D : Ends} {u : TS}
theorem s_unpack3 {i j m : Nat} (k : Kn X H) (h : EvP te σ X H (oP3 A B C)) (next : ∀ H1 x y z, Same H H1 → A X H1 x → B X H1 y → C X H1 z → u D (((σ.set i (some x)).set j (some y)).set m (some z)) H1) : tSeq (tAsg te (gTup K 3 (gCons (gName i) (gCons (gName j) (gCons (gName m) gNil))))) u D σ H :=
  h X H (Lt.refl k) _ fun H1 v s ⟨a, x, y, z, e, n, h1, hx, hy, hz⟩ => ⟨a, [x, y, z], e, .inl (.inl h1), rfl, x, [y, z], rfl, y, [z], rfl, z, [], rfl, rfl, next H1 x y z s hx hy hz⟩
theorem s_unpack2 {i j : Nat} (k : Kn X H) (h : EvP te σ X H (oP A B)) (next : ∀ H1 x y, Same H H1 → A X H1 x → B X H1 y → u D ((σ.set i (some x)).set j (some y)) H1) : tSeq (tAsg te (gTup K 2 (gCons (gName i) (gCons (gName j) gNil)))) u D σ H :=
  h X H (Lt.refl k) _ fun H1 v s ⟨a, x, y, e, n, h1, hx, hy⟩ => ⟨a, [x, y], e, .inl (.inl h1), rfl, x, [y], rfl, y, [], rfl, rfl, next H1 x y s hx hy⟩
/-! in, not in, of whole numbers -/
theorem inV_ints (j : Int) (xs : List Int) : inV (.int j) (xs.map V.int) = decide (j ∈ xs) := by
  unfold inV
  induction xs with
  | nil => rfl
  | cons x xs ih =>
    rw [List.map_cons, List.any_cons, ih]
    show (x == j || decide (j ∈ xs)) = decide (j ∈ x :: xs)
    by_cases h : x = j
    · subst h; simp
    · have : ¬ j = x := fun z => h z.symm
      simp [h, this]
theorem flat_ints (xs : List Int) : (xs.map V.int).all flatV = true := by
  rw [List.all_eq_true]
  intro v hv
  obtain ⟨i, _, rfl⟩ := List.mem_map.mp hv
  rfl
theorem ev_notIn {xs : List Nat} {j : Nat} (ha : EvP ta σ X H (oN j)) (hb : EvP tb σ X H (oL (fun k : Nat => oN k) xs)) : EvP (tOp (rIn K true) ta tb) σ X H (oB (decide (j ∉ xs))) :=
  ev_op ha hb fun Y H1 x y l ox oy Q q => by
    obtain ⟨a, vs, rfl, nx, e, it, bd⟩ := oy.its
    have ev := it.flat (f := fun k : Nat => V.int (k : Int))
    have ex : x = .int (j : Int) := ox
    have em : xs.map (fun k : Nat => V.int (k : Int)) = (xs.map fun k : Nat => (k : Int)).map V.int := by rw [List.map_map]; rfl
    subst ev ex
    refine ⟨a, _, rfl, .inl (.inl (.inl e)), rfl, by rw [em]; exact flat_ints _, q H1 _ (Same.refl _) ?_⟩
    show V.bl _ = V.bl _
    rw [em, if_pos rfl, inV_ints]
    congr 1
    have : ((j : Int) ∈ xs.map fun k : Nat => (k : Int)) ↔ j ∈ xs := by
      rw [List.mem_map]
      exact ⟨fun ⟨a, h1, h2⟩ => by have : a = j := by omega
                                   rw [← this]; exact h1, fun h => ⟨j, h, rfl⟩⟩
    by_cases h : j ∈ xs
    · rw [decide_eq_true (this.mpr h), decide_eq_false (fun z => z h)]; rfl
    · rw [decide_eq_false (fun z => h (this.mp z)), decide_eq_true h]; rfl
/-! data compared -/
class Dat (α : Type) where
  enc : α → PyData
  dp : Nat
  inj : ∀ a b, PyData.eqv (enc a) (enc b) = true ↔ a = b
  lay : ∀ a, (enc a).canLay0 = true
  dep : ∀ a, (enc a).depth ≤ dp
theorem eqv_all {α : Type} [d : Dat α] : ∀ xs ys : List α, PyData.eqvAll (xs.map d.enc) (ys.map d.enc) = true ↔ xs = ys
  | [], [] => by simp [PyData.eqvAll]
  | [], _ :: _ => by simp [PyData.eqvAll]
  | _ :: _, [] => by simp [PyData.eqvAll]
  | x :: xs, y :: ys => by
    rw [List.map_cons, List.map_cons, PyData.eqvAll, Bool.and_eq_true, d.inj, eqv_all xs ys]
    simp
theorem lay_all {α : Type} [d : Dat α] : ∀ xs : List α, PyData.canLayAll0 (xs.map d.enc) = true
  | [] => by simp [PyData.canLayAll0]
  | x :: xs => by
    rw [List.map_cons, PyData.canLayAll0, d.lay, lay_all xs]; rfl
theorem dep_all {α : Type} [d : Dat α] : ∀ xs : List α, PyData.depthAll (xs.map d.enc) ≤ d.dp
  | [] => by simp [PyData.depthAll]
  | x :: xs => by
    rw [List.map_cons, PyData.depthAll]
    exact Nat.max_le.mpr ⟨d.dep x, dep_all xs⟩
instance {α : Type} [d : Dat α] : Dat (List α) where
  enc xs := .list (xs.map d.enc)
  dp := d.dp + 1
  inj a b := by rw [PyData.eqv, eqv_all]
  lay a := by rw [PyData.canLay0, lay_all]
  dep a := by rw [PyData.depth]; exact Nat.succ_le_succ (dep_all a)
instance {q : Pm} : Dat (Fq q) where
  enc a := .int (vl a)
  dp := 0
  inj a b := by
    rw [PyData.eqv, beq_iff_eq]
    exact ⟨vl_inj, fun h => by rw [h]⟩
  lay a := by rw [PyData.canLay0]
  dep a := by rw [PyData.depth]; exact Nat.le_refl _
instance : Dat Int where
  enc a := .int a
  dp := 0
  inj a b := by rw [PyData.eqv, beq_iff_eq]
  lay a := by rw [PyData.canLay0]
  dep a := by rw [PyData.depth]; exact Nat.le_refl _
/-- what represents data -/
class DRep {α : Type} [d : Dat α] (R : α → Ob) : Prop where
  dp : ∀ (K : PySem.W.Frag) (X : AX) (H : Hp) (v : V) (x : α), R x X H v → Dp K H v (d.enc x)
instance {q : Pm} : DRep (fun a : Fq q => oF a) := ⟨fun K X H v x h => by
  have e : v = .int (vl x) := h
  rw [e]
  exact .int _⟩
instance : DRep (fun a : Int => oI a) := ⟨fun K X H v x h => by
  have e : v = .int x := h
  rw [e]
  exact .int _⟩
theorem dpAll {α : Type} [d : Dat α] {R : α → Ob} [r : DRep R] {K : PySem.W.Frag} {X : AX} {H : Hp} : ∀ {vs : List V} {xs : List α}, Its R X H vs xs → DpAll K H vs (xs.map d.enc)
  | [], [], _ => .nil
  | [], _ :: _, h => by have := h.1; simp at this
  | _ :: _, [], h => by have := h.1; simp at this
  | v :: vs, x :: xs, h => .cons (r.dp K X H v x (h.2 0 v x rfl rfl)) (dpAll ⟨by have := h.1; simpa using this, fun i u y e1 e2 => h.2 (i + 1) u y (by simpa using e1) (by simpa using e2)⟩)
instance {α : Type} [d : Dat α] {R : α → Ob} [r : DRep R] : DRep (fun xs : List α => oL R xs) := ⟨fun K X H v xs h => by
  obtain ⟨a, vs, rfl, n, e, it, b⟩ := h.its
  exact .lst (.inl (.inl e)) (dpAll it)⟩
theorem shaped_of {α : Type} [d : Dat α] (h : d.dp ≤ 64) (x : α) : SeqAt.shaped (d.enc x) = true := by
  unfold SeqAt.shaped
  rw [d.lay, decide_eq_true (Nat.le_trans (d.dep x) h)]
  rfl
theorem eqv_dec {α : Type} [d : Dat α] [DecidableEq α] (x y : α) : PyData.eqv (d.enc x) (d.enc y) = decide (x = y) := by
  by_cases h : x = y
  · rw [decide_eq_true h]; exact (d.inj x y).mpr h
  · rw [decide_eq_false h]
    cases e : PyData.eqv (d.enc x) (d.enc y) with
    | false => rfl
    | true => exact absurd ((d.inj x y).mp e) h
theorem ev_eqD {α : Type} [d : Dat α] [DecidableEq α] {R : α → Ob} [r : DRep R] [∀ x, Rep (R x)] {x y : α} (hd : d.dp ≤ 64) (ha : EvP ta σ X H (R x)) (hb : EvP tb σ X H (R y)) : EvP (tOp (rEqD K) ta tb) σ X H (oB (decide (x = y))) :=
  ev_op ha hb fun Y H1 v u l ov ou Q q => ⟨_, _, r.dp K Y H1 v x ov, r.dp K Y H1 u y ou, shaped_of hd x, shaped_of hd y, q H1 _ (Same.refl _) (by rw [eqv_dec]; rfl)⟩
theorem ev_neD {α : Type} [d : Dat α] [DecidableEq α] {R : α → Ob} [r : DRep R] [∀ x, Rep (R x)] {x y : α} (hd : d.dp ≤ 64) (ha : EvP ta σ X H (R x)) (hb : EvP tb σ X H (R y)) : EvP (tOp (rNeD K) ta tb) σ X H (oB (!decide (x = y))) :=
  ev_op ha hb fun Y H1 v u l ov ou Q q => ⟨_, _, r.dp K Y H1 v x ov, r.dp K Y H1 u y ou, shaped_of hd x, shaped_of hd y, q H1 _ (Same.refl _) (by rw [eqv_dec]; rfl)⟩
/-! more -/
theorem cell_set {q : Pm} {r : List (Fq q)} {k : Nat} {a : Fq q} : (r.map fun a : Fq q => V.int (vl a)).set k (.int (vl a)) = (r.set k a).map fun a : Fq q => V.int (vl a) := by rw [List.map_set]
theorem ip_mulM {X : Cx} : PIp X .Mult (fun x y H Q => ∃ i j, x = .int i ∧ y = .int j ∧ CMul i j ∧ Q (.int (i * j)) H) := by
  intro pins s σ H x y v u Q I r1 r2 h
  obtain ⟨i, j, e1, e2, hc, q⟩ := h
  subst e1 e2
  obtain ⟨t, rfl⟩ := r1
  obtain ⟨t', rfl⟩ := r2
  exact imul_int ⟨.int _, H, I.tok _, ⟨_, rfl⟩, q⟩ hc.ok
theorem pe_longest {X : Cx} {pos : Pos} (hg : Gl X "LONGEST") (T : Tp X.K X.mg) : PE X (.Name "LONGEST" pos) (tC (.int 36)) := by
  obtain ⟨t, ht⟩ := T.longest
  exact pe_glob hg ht ⟨t, rfl⟩
end
end Still

set_option Elab.async false
set_option linter.all false
set_option maxRecDepth 100000
set_option maxHeartbeats 4000000
namespace Still
open PySem PySem.Spec PyProof.Rows L2
section
variable {w : World} {K : PySem.W.Frag} {mg : Str → Option Value} {base : Heap}
variable {σ : L2.St} {X : AX} {H : Hp} {ta tb tc td te : TE}
/-! def is_whole: slots 0=thing 1=least 2=end -/
abbrev N_is_whole : List Str := ["thing", "least", "end"]
theorem sc_is_whole : FnScope N_is_whole ["thing", "least", "end"] (defScope (topS 13)) := ⟨rfl, rfl, rfl, by decide +kernel, rfl, by decide +kernel, by decide +kernel⟩
def sp_is_whole : L2.Sp := mkSp (ι := Int × Int × Int) (fun i => a3 (oI i.1) (oI i.2.1) (oI i.2.2)) (fun i => oB (decide (i.2.1 ≤ i.1) && decide (i.1 < i.2.2)))
theorem ev_is_whole {i lo hi : Int} (h1 : EvP ta σ X H (oI i)) (h2 : EvP tb σ X H (oI lo)) (h3 : EvP tc σ X H (oI hi)) : EvP (tCall sp_is_whole [] E0 (tCons ta (tCons tb (tCons tc tNil)))) σ X H (oB (decide (lo ≤ i) && decide (i < hi))) := ev_call ((i, lo, hi) : Int × Int × Int) (ea3 h1 h2 h3)
theorem kib1 : kitB "int" "int" = some true := by decide +kernel
theorem kib2 : kitB "int" "bool" = some false := by decide +kernel
theorem kib3 : kitB "list" "list" = some true := by decide +kernel
theorem c_is_whole (T : Tp K mg) : Ct w K mg base 1 "is_whole" sp_is_whole := by
  refine ct_mk T (i := 13) (by decide) sc_is_whole (fun _ _ _ _ _ _ us hl => match us, hl with | [_, _, _], _ => rfl) (mkSp_len fun i X H vs h => ?_) fun f cdv A outer s H vs Q E hr h => ?_
  · exact a3_len h
  · obtain ⟨⟨i, lo, hi⟩, X, k, ⟨u1, u2, u3, rfl, h1, h2, h3⟩, post⟩ := h
    dsimp only at h1 h2 h3 post
    have nd := sc_is_whole.nd
    refine ⟨_, PSs.nox (pss_one (ps_ret (pe_and (pe_callB (call_isiK2 K) (by rfl) (T.fr "isinstance" (by decide)) (by decide +kernel) (pa_cons (pv 0) (pa_cons (pe_bltn (v := .ty "int") (by rfl) (T.fr "int" (by decide)) (by decide +kernel) rfl) pa_nil))) (pe_and (pe_not (pe_callB (call_isiK2 K) (by rfl) (T.fr "isinstance" (by decide)) (by decide +kernel) (pa_cons (pv 0) (pa_cons (pe_bltn (v := .ty "bool") (by rfl) (T.fr "bool" (by decide)) (by decide +kernel) rfl) pa_nil)))) (pe_one (pe_chain op_le op_lt (pv 1) (pv 0) (pv 2))))))), ?_⟩
    exact s_ret k (ev_andV (ev_isiI kib1 (ev_var rfl h1)) fun _ => ev_andV (ev_notV (ev_isiI kib2 (ev_var rfl h1))) fun _ => ev_chain (ev_var rfl h2) (ev_var rfl h1) (ev_var rfl h3)) fun H5 v5 s5 o5 => post H5 v5 s5 o5
/-! def is_row: slots 0=p 1=length 2=thing 3=number -/
abbrev N_is_row : List Str := ["p", "length", "thing", "number"]
theorem sc_is_row : FnScope N_is_row ["p", "length", "thing"] (defScope (topS 14)) := ⟨rfl, rfl, rfl, by decide +kernel, rfl, by decide +kernel, by decide +kernel⟩
def sp_is_row : L2.Sp := mkSp (ι := (q : Pm) × Nat × List (Fq q)) (fun i => a3 (oN i.1.n) (oN i.2.1) (oRow i.2.2)) (fun i => oB (decide (i.2.2.length = i.2.1)))
theorem ev_is_row {q : Pm} {n : Nat} {r : List (Fq q)} (h1 : EvP ta σ X H (oN q.n)) (h2 : EvP tb σ X H (oN n)) (h3 : EvP tc σ X H (oRow r)) : EvP (tCall sp_is_row [] E0 (tCons ta (tCons tb (tCons tc tNil)))) σ X H (oB (decide (r.length = n))) := ev_call (⟨q, n, r⟩ : (q : Pm) × Nat × List (Fq q)) (ea3 h1 h2 h3)
theorem dec_nat (a b : Nat) : decide (V.int (a : Int) = V.int (b : Int)) = decide (a = b) := by
  by_cases h : a = b
  · subst h; simp
  · have : ¬ (a : Int) = b := by omega
    simp [h, this]
theorem c_is_row (c_is_whole : Ct w K mg base 1 "is_whole" sp_is_whole) (T : Tp K mg) : Ct w K mg base 2 "is_row" sp_is_row := by
  refine ct_mk T (i := 14) (by decide) sc_is_row (fun _ _ _ _ _ _ us hl => match us, hl with | [_, _, _], _ => rfl) (mkSp_len fun i X H vs h => ?_) fun f cdv A outer s H vs Q E hr h => ?_
  · exact a3_len h
  · obtain ⟨⟨q, n, r⟩, X, k, ⟨u1, u2, u3, rfl, h1, h2, h3⟩, post⟩ := h
    dsimp only at h1 h2 h3 post
    have nd := sc_is_row.nd
    refine ⟨_, PSs.nox (pss_one (ps_ret (pe_and (pe_callB (call_isiK2 K) (by rfl) (T.fr "isinstance" (by decide)) (by decide +kernel) (pa_cons (pv 2) (pa_cons (pe_bltn (v := .ty "list") (by rfl) (T.fr "list" (by decide)) (by decide +kernel) rfl) pa_nil))) (pe_and (pe_cmpR op_eq (pe_callB (call_lenK K) (by rfl) (T.fr "len" (by decide)) PySem.boot_len (pa_cons (pv 2) pa_nil)) (pv 1) (nomark _)) (pe_one (pe_callB (cr_allK K rfl) (by rfl) (T.fr "all" (by decide)) (by decide +kernel) (pa_cons (pe_lc (own := [("number", 3)]) (g := gName 3) (tt := tYes) rfl nd (pi_listK K (pv 2)) (blkOk_by (N := N_is_row) (sc := (defScope (topS 14))) (by decide +kernel)) (fun _ _ _ _ _ => pg_name (i := 3) nd rfl (Or.inl rfl)) (fun _ _ _ _ _ => pts_nil) (fun _ _ _ _ _ => pe_ct c_is_whole hr (by decide) (by rfl) (pa_cons (pv 3) (pa_cons pe_int (pa_cons (pv 0) pa_nil))))) pa_nil))))))), ?_⟩
    refine s_ret k (ev_andV (ev_isiL kib3 (ev_var rfl h3)) fun _ => ev_andV (ev_eq (ev_len (ev_var rfl h3)) (ev_var rfl h2) rfl) fun _ => ev_allM (xs := r) (f := fun a => decide ((0 : Int) ≤ vl a) && decide (vl a < q.n)) ((en_map (R' := fun b : Bool => oB b) _ (ei_list (ev_var rfl h3)) (oL_len h3) fun o ho Y H5 v5 l5 rv => ⟨_, tg1, rfl, ev_is_whole (ev_var rfl rv) ev_int (ev_var rfl (up l5 h1))⟩).ev (by rw [List.length_map]; exact oL_len h3))) fun H5 v5 s5 o5 => post H5 v5 s5 ?_
    have e : (r.all fun a => decide ((0 : Int) ≤ vl a) && decide (vl a < q.n)) = true := by
      rw [List.all_eq_true]
      intro a _
      rw [decide_eq_true (vl_lo a), decide_eq_true (vl_hi a)]; rfl
    rw [e, dec_nat, Bool.and_true, Bool.true_and] at o5
    exact o5
/-! def is_low: slots 0=p 1=thing 2=row -/
abbrev N_is_low : List Str := ["p", "thing", "row"]
theorem sc_is_low : FnScope N_is_low ["p", "thing"] (defScope (topS 15)) := ⟨rfl, rfl, rfl, by decide +kernel, rfl, by decide +kernel, by decide +kernel⟩
structure LoOk {q : Pm} (n : Nat) (form : List (List (Fq q))) : Prop where
  lo : Lo n form
  pos : 1 ≤ n
  top : n ≤ 36
def sp_is_low : L2.Sp := mkSp (ι := (q : Pm) × Nat × List (List (Fq q))) (fun i X H vs => LoOk i.2.1 i.2.2 ∧ a2 (oN i.1.n) (oRows i.2.2) X H vs) (fun i => oB true)
theorem ev_is_low {q : Pm} {n : Nat} {form : List (List (Fq q))} (hp : LoOk n form) (h1 : EvP ta σ X H (oN q.n)) (h2 : EvP tb σ X H (oRows form)) : EvP (tCall sp_is_low [] E0 (tCons ta (tCons tb tNil))) σ X H (oB true) :=
  ev_call (⟨q, n, form⟩ : (q : Pm) × Nat × List (List (Fq q))) (EvA.pre hp (ea2 h1 h2))
theorem c_is_low (c_is_row : Ct w K mg base 2 "is_row" sp_is_row) (c_low : Ct w K mg base 5 "low" sp_low) (T : Tp K mg) : Ct w K mg base 6 "is_low" sp_is_low := by
  refine ct_mk T (i := 15) (by decide) sc_is_low (fun _ _ _ _ _ _ us hl => match us, hl with | [_, _], _ => rfl) (mkSp_len fun i X H vs h => ?_) fun f cdv A outer s H vs Q E hr h => ?_
  · exact a2_len h.2
  · obtain ⟨⟨q, n, form⟩, X, k, ⟨⟨hlo, hpos, htop⟩, u1, u2, rfl, h1, h2⟩, post⟩ := h
    dsimp only at hlo hpos htop h1 h2 post
    have nd := sc_is_low.nd
    refine ⟨_, PSs.nox (pss_cons (ps_if (pt_not (pt_val (pe_callB (call_isiK2 K) (by rfl) (T.fr "isinstance" (by decide)) (by decide +kernel) (pa_cons (pv 1) (pa_cons (pe_bltn (v := .ty "list") (by rfl) (T.fr "list" (by decide)) (by decide +kernel) rfl) pa_nil)))))
    (pss_one (ps_ret pe_bl)) pss_nil)
  (pss_cons (ps_if (pt_cmpR op_eq (pe_callB (call_lenK K) (by rfl) (T.fr "len" (by decide)) PySem.boot_len (pa_cons (pv 1) pa_nil)) pe_int (nomark _))
    (pss_one (ps_ret pe_bl)) pss_nil)
  (pss_cons (ps_if (PW.pt (pw_or (pt_not (pt_val (pe_callB (call_isiK2 K) (by rfl) (T.fr "isinstance" (by decide)) (by decide +kernel) (pa_cons (pe_ix (ix_listK K) (pv 1) pe_int (fun _ _ => rfl)) (pa_cons (pe_bltn (v := .ty "list") (by rfl) (T.fr "list" (by decide)) (by decide +kernel) rfl) pa_nil))))) (pw_or1 (pt_not (pt_chain op_le op_le pe_int (pe_callB (call_lenK K) (by rfl) (T.fr "len" (by decide)) PySem.boot_len (pa_cons (pe_ix (ix_listK K) (pv 1) pe_int (fun _ _ => rfl)) pa_nil)) (pe_longest (by rfl) T))))))
    (pss_one (ps_ret pe_bl)) pss_nil)
  (pss_cons (ps_if (pt_not (pt_val (pe_callB (cr_allK K rfl) (by rfl) (T.fr "all" (by decide)) (by decide +kernel) (pa_cons (pe_lc (own := [("row", 2)]) (g := gName 2) (tt := tYes) rfl nd (pi_listK K (pv 1)) (blkOk_by (N := N_is_low) (sc := (defScope (topS 15))) (by decide +kernel)) (fun _ _ _ _ _ => pg_name (i := 2) nd rfl (Or.inl rfl)) (fun _ _ _ _ _ => pts_nil) (fun _ _ _ _ _ => pe_ct c_is_row hr (by decide) (by rfl) (pa_cons (pv 0) (pa_cons (pe_callB (call_lenK K) (by rfl) (T.fr "len" (by decide)) PySem.boot_len (pa_cons (pe_ix (ix_listK K) (pv 1) pe_int (fun _ _ => rfl)) pa_nil)) (pa_cons (pv 2) pa_nil))))) pa_nil))))
    (pss_one (ps_ret pe_bl)) pss_nil)
  (pss_one (ps_ret (pe_cmpR (op_eqDK K hr.units) (pe_ct c_low hr (by decide) (by rfl) (pa_cons (pv 0) (pa_cons (pv 1) pa_nil))) (pv 1) (nomark _)))))))), ?_⟩
    refine s_if k (et_not (et_B (ev_isiL kib3 (ev_var rfl h2)))) (fun hb _ _ => by cases hb) fun _ H1 s1 => ?_
    have k1 := k.same s1
    have h2a := rsm s1 h2
    refine s_if k1 (et_test (ev_eq (ev_len (ev_var rfl h2a)) ev_nat rfl)) (fun hb H2 s2 => s_ret (k1.same s2) ev_c fun H5 v5 s5 o5 => post H5 v5 ((s1.trans s2).trans s5) o5) fun hb H2 s2 => ?_
    rw [dec_nat, decide_eq_false_iff_not] at hb
    have k2 := k1.same s2
    have h2b := rsm s2 h2a
    obtain ⟨r, hr⟩ : ∃ r, form[0]? = some r := ⟨form[0]'(Nat.pos_of_ne_zero hb), List.getElem?_eq_getElem _⟩
    have er := hlo.row r (List.mem_of_getElem? hr)
    have e0 : ∀ {X H}, oRows form X H u2 → EvP (tOp (rIxL K) (tVar 1) (tC (.int 0))) (start N_is_low [u1, u2]) X H (oRow r) := fun h => ev_ix (i := 0) (ev_var rfl h) ev_nat hr
    refine s_if k2 (et_or (et_not (et_B (ev_isiL kib3 (e0 h2b)))) fun _ => et_not (et_test (ev_chain ev_int (ev_len (e0 h2b)) ev_int))) (fun hb2 H3 s3 => ?_) fun _ H3 s3 => ?_
    · exfalso
      rw [er] at hb2
      simp at hb2
      omega
    · have k3 := k2.same s3
      have h1c := rsm ((s1.trans s2).trans s3) h1
      have h2c := rsm s3 h2b
      refine s_if k3 (et_not (et_B (ev_allM (xs := form) (f := fun s => decide (s.length = r.length)) ((en_map (R' := fun b : Bool => oB b) _ (ei_list (ev_var rfl h2c)) (oL_len h2c) fun o ho Y H5 v5 l5 rv => ⟨_, tg1, rfl, ev_is_row (ev_var rfl (up l5 h1c)) (ev_len (ev_ix (i := 0) (ev_var rfl (up l5 h2c)) ev_nat hr)) (ev_var rfl rv)⟩).ev (by rw [List.length_map]; exact oL_len h2c))))) (fun hb2 H4 s4 => ?_) fun _ H4 s4 => ?_
      · exfalso
        have e : (form.all fun s => decide (s.length = r.length)) = true := by
          rw [List.all_eq_true]
          intro s hs
          rw [decide_eq_true (by rw [hlo.row s hs, er])]
        rw [e] at hb2
        cases hb2
      · refine s_ret (k3.same s4) (ev_eqD (R := fun m : List (List (Fq q)) => oRows m) (by decide : (2 : Nat) ≤ 64) (ev_low hlo.row (ev_var rfl (rsm s4 h1c)) (ev_var rfl (rsm s4 h2c))) (ev_var rfl (rsm s4 h2c))) fun H5 v5 s5 o5 => post H5 v5 ((((s1.trans s2).trans s3).trans s4).trans s5) ?_
        rw [low_self hlo, decide_eq_true rfl] at o5
        exact o5
/-! def turned: slots 0=table 1=row 2=j -/
abbrev N_turned : List Str := ["table", "row", "j"]
theorem sc_turned : FnScope N_turned ["table"] (defScope (topS 21)) := ⟨rfl, rfl, rfl, by decide +kernel, rfl, by decide +kernel, by decide +kernel⟩
structure TrOk {q : Pm} (n : Nat) (A : List (List (Fq q))) : Prop where
  row : ∀ r, r ∈ A → r.length = n
  ne : A ≠ []
def sp_turned : L2.Sp := mkSp (ι := (q : Pm) × Nat × List (List (Fq q))) (fun i X H vs => TrOk i.2.1 i.2.2 ∧ a1 (oRows i.2.2) X H vs) (fun i => oRows (trM i.2.1 i.2.2))
theorem ev_turned {q : Pm} {n : Nat} {A : List (List (Fq q))} (hp : TrOk n A) (h1 : EvP ta σ X H (oRows A)) : EvP (tCall sp_turned [] E0 (tCons ta tNil)) σ X H (oRows (trM n A)) :=
  ev_call (⟨q, n, A⟩ : (q : Pm) × Nat × List (List (Fq q))) (EvA.pre hp (ea1 h1))
theorem c_turned (T : Tp K mg) : Ct w K mg base 1 "turned" sp_turned := by
  refine ct_mk T (i := 21) (by decide) sc_turned (fun _ _ _ _ _ _ us hl => match us, hl with | [_], _ => rfl) (mkSp_len fun i X H vs h => ?_) fun f cdv A outer s H vs Q E hr h => ?_
  · exact a1_len h.2
  · obtain ⟨⟨q, n, A⟩, X, k, ⟨⟨hrow, hne⟩, u1, rfl, h1⟩, post⟩ := h
    dsimp only at hrow hne h1 post
    have nd := sc_turned.nd
    refine ⟨_, PSs.nox (pss_one (ps_ret (pe_lc (own := [("j", 2)]) (g := gName 2) (tt := tYes) rfl nd (pi_range1 (by rfl) (T.fr "range" (by decide)) (pa_cons (pe_callB (call_lenK K) (by rfl) (T.fr "len" (by decide)) PySem.boot_len (pa_cons (pe_ix (ix_listK K) (pv 0) pe_int (fun _ _ => rfl)) pa_nil)) pa_nil)) (blkOk_by (N := N_turned) (sc := (defScope (topS 21))) (by decide +kernel)) (fun _ _ _ _ _ => pg_name (i := 2) nd rfl (Or.inr rfl)) (fun _ _ _ _ _ => pts_nil) (fun _ _ _ _ _ => pe_lc (own := [("row", 1)]) (g := gName 1) (tt := tYes) rfl nd (pi_listK K (pv 0)) (blkOk_by (N := N_turned) (sc := ({ kind := .function, names := [(".0", .local), ("j", .cell), ("table", .cell)], isGenerator := false, isCoroutine := false, more := [] } : Scope)) (by decide +kernel)) (fun _ _ _ _ _ => pg_name (i := 1) nd rfl (Or.inl rfl)) (fun _ _ _ _ _ => pts_nil) (fun _ _ _ _ _ => pe_ix (ix_listK K) (pv 1) (pv 2) (fun _ _ => rfl)))))), ?_⟩
    obtain ⟨r, hr⟩ : ∃ r, A[0]? = some r := by
      cases A with
      | nil => exact absurd rfl hne
      | cons r A => exact ⟨r, rfl⟩
    have er := hrow r (List.mem_of_getElem? hr)
    have hn : n ≤ 5000 := by rw [← er]; exact oRows_row h1 (List.mem_of_getElem? hr)
    refine s_ret k (((en_map (R := fun j : Nat => oN j) (R' := fun r : List (Fq q) => oRow r) (fun j => A.map fun row => vc row j) (ei_range (n := n) (by rw [← er]; exact ev_len (ev_ix (i := 0) (ev_var rfl h1) ev_nat hr)) (by omega)) (by rw [List.length_range]; exact hn) fun j hj Y H5 v5 l5 rv => ?_).ev (by rw [List.length_map, List.length_range]; exact hn))) fun H5 v5 s5 o5 => post H5 v5 s5 o5
    have hj2 := List.mem_range.mp hj
    refine ⟨_, tg1, rfl, (en_map (R' := fun a : Fq q => oF a) (fun row => vc row j) (ei_list (ev_var rfl (up l5 h1))) (oL_len h1) fun row hrw Y2 H6 v6 l6 rv6 => ⟨_, tg1, rfl, ?_⟩).ev (by rw [List.length_map]; exact oL_len h1)⟩
    exact ev_ix (i := j) (ev_var rfl rv6) (ev_var rfl (up l6 rv)) (vc_get (by rw [hrow row hrw]; exact hj2))
/-! def plain: slots 0=size 1=j 2=i -/
abbrev N_plain : List Str := ["size", "j", "i"]
theorem sc_plain : FnScope N_plain ["size"] (defScope (topS 22)) := ⟨rfl, rfl, rfl, by decide +kernel, rfl, by decide +kernel, by decide +kernel⟩
def sp_plain : L2.Sp := mkSp (ι := (q : Pm) × Nat) (fun i X H vs => i.2 ≤ 5000 ∧ a1 (oN i.2) X H vs) (fun i => oRows (plainM (F := Fq i.1) i.2))
theorem ev_plain {q : Pm} {n : Nat} (hn : n ≤ 5000) (h1 : EvP ta σ X H (oN n)) : EvP (tCall sp_plain [] E0 (tCons ta tNil)) σ X H (oRows (plainM (F := Fq q) n)) :=
  ev_call (⟨q, n⟩ : (q : Pm) × Nat) (EvA.pre hn (ea1 h1))
theorem bit_of {q : Pm} (b : Bool) : oI (if b then 1 else 0) = oF (if b = true then (1 : Fq q) else 0) := by
  cases b
  · show oV (.int 0) = oV (.int (vl (0 : Fq q)))
    rw [vl_zero]
  · show oV (.int 1) = oV (.int (vl (1 : Fq q)))
    rw [vl_one]
theorem c_plain (T : Tp K mg) : Ct w K mg base 1 "plain" sp_plain := by
  refine ct_mk T (i := 22) (by decide) sc_plain (fun _ _ _ _ _ _ us hl => match us, hl with | [_], _ => rfl) (mkSp_len fun i X H vs h => ?_) fun f cdv A outer s H vs Q E hr h => ?_
  · exact a1_len h.2
  · obtain ⟨⟨q, n⟩, X, k, ⟨hn, u1, rfl, h1⟩, post⟩ := h
    dsimp only at hn h1 post
    have nd := sc_plain.nd
    refine ⟨_, PSs.nox (pss_one (ps_ret (pe_lc (own := [("i", 2)]) (g := gName 2) (tt := tYes) rfl nd (pi_range1 (by rfl) (T.fr "range" (by decide)) (pa_cons (pv 0) pa_nil)) (blkOk_by (N := N_plain) (sc := (defScope (topS 22))) (by decide +kernel)) (fun _ _ _ _ _ => pg_name (i := 2) nd rfl (Or.inr rfl)) (fun _ _ _ _ _ => pts_nil) (fun _ _ _ _ _ => pe_lc (own := [("j", 1)]) (g := gName 1) (tt := tYes) rfl nd (pi_range1 (by rfl) (T.fr "range" (by decide)) (pa_cons (pv 0) pa_nil)) (blkOk_by (N := N_plain) (sc := ({ kind := .function, names := [(".0", .local), ("i", .cell), ("range", .globalImplicit), ("size", .cell)], isGenerator := false, isCoroutine := false, more := [] } : Scope)) (by decide +kernel)) (fun _ _ _ _ _ => pg_name (i := 1) nd rfl (Or.inl rfl)) (fun _ _ _ _ _ => pts_nil) (fun _ _ _ _ _ => pe_callTy call_int1 (by rfl) (T.fr "int" (by decide)) boot_int (pa_cons (pe_cmpR op_eq (pv 2) (pv 1) (nomark _)) pa_nil)))))), ?_⟩
    refine s_ret k (((en_map (R := fun j : Nat => oN j) (R' := fun r : List (Fq q) => oRow r) (fun i => uM n i) (ei_range (n := n) (ev_var rfl h1) (by omega)) (by rw [List.length_range]; exact hn) fun i hi Y H5 v5 l5 rv => ?_).ev (by rw [List.length_map, List.length_range]; exact hn))) fun H5 v5 s5 o5 => post H5 v5 s5 o5
    refine ⟨_, tg1, rfl, (en_map (R := fun j : Nat => oN j) (R' := fun a : Fq q => oF a) (fun j => if j = i then 1 else 0) (ei_range (n := n) (ev_var rfl (up l5 h1)) (by omega)) (by rw [List.length_range]; exact hn) fun j hj Y2 H6 v6 l6 rv6 => ⟨_, tg1, rfl, ?_⟩).ev (by rw [List.length_map, List.length_range]; exact hn)⟩
    refine (ev_intB (ev_eq (ev_var rfl (up l6 rv)) (ev_var rfl rv6) rfl)).eq ?_
    rw [dec_nat, bit_of (q := q)]
    congr 1
    by_cases e : j = i
    · subst e; simp
    · have : ¬ i = j := fun z => e z.symm
      simp [e, this]
/-! def many_rows: slots 0=p 1=size 2=found 3=k -/
abbrev N_many_rows : List Str := ["p", "size", "found", "k"]
theorem sc_many_rows : FnScope N_many_rows ["p", "size"] (defScope (topS 24)) := ⟨rfl, rfl, rfl, by decide +kernel, rfl, by decide +kernel, by decide +kernel⟩
def sp_many_rows : L2.Sp := mkSp (ι := Pm × Nat) (fun i X H vs => i.2 ≤ 1000 ∧ a2 (oN i.1.n) (oN i.2) X H vs) (fun i => oN (i.1.n ^ i.2))
theorem ev_many_rows {q : Pm} {n : Nat} (hn : n ≤ 1000) (h1 : EvP ta σ X H (oN q.n)) (h2 : EvP tb σ X H (oN n)) : EvP (tCall sp_many_rows [] E0 (tCons ta (tCons tb tNil))) σ X H (oN (q.n ^ n)) :=
  ev_call ((q, n) : Pm × Nat) (EvA.pre hn (ea2 h1 h2))
theorem c_many_rows (T : Tp K mg) : Ct w K mg base 1 "many_rows" sp_many_rows := by
  refine ct_mk T (i := 24) (by decide) sc_many_rows (fun _ _ _ _ _ _ us hl => match us, hl with | [_, _], _ => rfl) (mkSp_len fun i X H vs h => ?_) fun f cdv A outer s H vs Q E hr h => ?_
  · exact a2_len h.2
  · obtain ⟨⟨q, n⟩, X, k, ⟨hn, u1, u2, rfl, h1, h2⟩, post⟩ := h
    dsimp only at hn h1 h2 post
    have nd := sc_many_rows.nd
    refine ⟨_, PSs.nox (pss_cons (ps_set (i := 2) nd rfl (.inl rfl) pe_int)
  (pss_cons (ps_for PassesOwn.never rfl (pi_range1 (by rfl) (T.fr "range" (by decide)) (pa_cons (pv 1) pa_nil)) (pg_name (i := 3) nd rfl (Or.inl rfl))
    (pss_one (ps_aug (i := 2) nd rfl (.inl rfl) (pv 0) ip_mulM)))
  (pss_one (ps_ret (pv 2))))), ?_⟩
    have hu : u1 = .int (q.n : Int) := h1
    subst hu
    refine s_set k ev_int fun H1 v1 s1 o1 => ?_
    have e1 : v1 = .int 1 := o1
    subst e1
    refine s_for (k.same s1) (ei_range (ev_var rfl (rsm s1 h2)) (by omega)) fun H2 s2 l2 => ?_
    refine ⟨fun i σ1 H3 => (∃ z, σ1 = [some (.int (q.n : Int)), some u2, some (.int ((q.n ^ i : Nat) : Int)), z]) ∧ Same H H3, ⟨⟨none, rfl⟩, s1.trans s2⟩, ?_, ?_⟩
    · rintro i o σ1 H3 H4 vo ho l3 ⟨⟨z, rfl⟩, sa⟩ s4 hvo
      refine tg1 _ ⟨_, rfl, _, rfl, _, _, rfl, rfl, .inr (by have := q.pos; omega), ?_⟩
      refine ⟨⟨⟨some vo, ?_⟩, sa.trans s4⟩, l3.same s4⟩
      rw [Nat.pow_succ, Int.natCast_mul]
      rfl
    · rintro σ1 H3 l3 ⟨⟨z, rfl⟩, sa⟩
      rw [List.length_range]
      exact s_ret l3.kn (ev_var rfl (rfl : oN (q.n ^ n) X H3 _)) fun H5 v5 s5 o5 => post H5 v5 (sa.trans s5) o5
/-! def turned_crew: slots 0=crew 1=p 2=size 3=tables 4=table -/
abbrev N_turned_crew : List Str := ["crew", "p", "size", "tables", "table"]
theorem sc_turned_crew : FnScope N_turned_crew ["crew"] (defScope (topS 25)) := ⟨rfl, rfl, rfl, by decide +kernel, rfl, by decide +kernel, by decide +kernel⟩
structure CrOk {q : Pm} (n : Nat) (tabs : List (List (List (Fq q)))) : Prop where
  sq : ∀ A, A ∈ tabs → Sq n A
  pos : 0 < n
  top : n ≤ 36
theorem CrOk.tr {q : Pm} {n : Nat} {tabs : List (List (List (Fq q)))} (h : CrOk n tabs) {A : List (List (Fq q))} (hA : A ∈ tabs) : TrOk n A := ⟨(h.sq A hA).2, fun z => by have := (h.sq A hA).1; have := h.pos; rw [z] at *; simp at *; omega⟩
theorem CrOk.led {q : Pm} {n : Nat} {tabs : List (List (List (Fq q)))} (h : CrOk n tabs) {A : List (List (Fq q))} (hA : A ∈ tabs) {r : List (Fq q)} (hr : r.length = n) : LedOk n r A := LedOk.of (h.sq A hA) hr h.pos
theorem CrOk.ledn {q : Pm} {n : Nat} {tabs : List (List (List (Fq q)))} (h : CrOk n tabs) {A : List (List (Fq q))} (hA : A ∈ tabs) {r : List (Fq q)} (hr : r.length = n) : (ledM r A).length = n := (led_ok (by rw [hr, (h.sq A hA).1]) (h.sq A hA).2 (h.tr hA).ne).1
def sp_turned_crew : L2.Sp := mkSp (ι := (q : Pm) × Nat × List (List (List (Fq q)))) (fun i X H vs => CrOk i.2.1 i.2.2 ∧ a1 (oCrew i.2.1 i.2.2) X H vs) (fun i => oCrew i.2.1 (i.2.2.map (trM i.2.1)))
theorem ev_turned_crew {q : Pm} {n : Nat} {tabs : List (List (List (Fq q)))} (hp : CrOk n tabs) (h1 : EvP ta σ X H (oCrew n tabs)) : EvP (tCall sp_turned_crew [] E0 (tCons ta tNil)) σ X H (oCrew n (tabs.map (trM n))) :=
  ev_call (⟨q, n, tabs⟩ : (q : Pm) × Nat × List (List (List (Fq q)))) (EvA.pre hp (ea1 h1))
theorem c_turned_crew (c_turned : Ct w K mg base 1 "turned" sp_turned) (T : Tp K mg) : Ct w K mg base 2 "turned_crew" sp_turned_crew := by
  refine ct_mk T (i := 25) (by decide) sc_turned_crew (fun _ _ _ _ _ _ us hl => match us, hl with | [_], _ => rfl) (mkSp_len fun i X H vs h => ?_) fun f cdv A outer s H vs Q E hr h => ?_
  · exact a1_len h.2
  · obtain ⟨⟨q, n, tabs⟩, X, k, ⟨ok, u1, rfl, h1⟩, post⟩ := h
    dsimp only at ok h1 post
    have nd := sc_turned_crew.nd
    refine ⟨_, PSs.nox (pss_cons (ps_asg (pv 0) (pg_tup (by rfl) (pgs_cons (pg_name (i := 1) nd rfl (Or.inl rfl)) (pgs_cons (pg_name (i := 2) nd rfl (Or.inl rfl)) (pgs_cons (pg_name (i := 3) nd rfl (Or.inl rfl)) pgs_nil)))))
  (pss_one (ps_ret (pe_tup (pa_cons (pv 1) (pa_cons (pv 2) (pa_cons (pe_lc (own := [("table", 4)]) (g := gName 4) (tt := tYes) rfl nd (pi_listK K (pv 3)) (blkOk_by (N := N_turned_crew) (sc := (defScope (topS 25))) (by decide +kernel)) (fun _ _ _ _ _ => pg_name (i := 4) nd rfl (Or.inl rfl)) (fun _ _ _ _ _ => pts_nil) (fun _ _ _ _ _ => pe_ct c_turned hr (by decide) (by rfl) (pa_cons (pv 4) pa_nil))) pa_nil))))))), ?_⟩
    refine s_unpack3 k (ev_var rfl h1) fun H1 x y z s1 hx hy hz => ?_
    refine s_ret (k.same s1) (ev_tup3 (ev_var rfl hx) (ev_var rfl hy) ((en_map (R' := fun m : List (List (Fq q)) => oRows m) (trM n) (ei_list (ev_var rfl hz)) (oL_len hz) fun A hA Y H5 v5 l5 rv => ⟨_, tg1, rfl, ev_turned (ok.tr hA) (ev_var rfl rv)⟩).ev (by rw [List.length_map]; exact oL_len hz))) fun H5 v5 s5 o5 => post H5 v5 (s1.trans s5) o5
/-! def is_still: slots 0=crew 1=form 2=p 3=size 4=tables 5=row 6=table -/
abbrev N_is_still : List Str := ["crew", "form", "p", "size", "tables", "row", "table"]
theorem sc_is_still : FnScope N_is_still ["crew", "form"] (defScope (topS 27)) := ⟨rfl, rfl, rfl, by decide +kernel, rfl, by decide +kernel, by decide +kernel⟩
structure StOk {q : Pm} (n : Nat) (tabs : List (List (List (Fq q)))) (form : List (List (Fq q))) : Prop where
  cr : CrOk n tabs
  lo : Lo n form
def stillM {q : Pm} (tabs : List (List (List (Fq q)))) (form : List (List (Fq q))) : Bool := form.all fun r => tabs.all fun A => hasM form (ledM r A)
def sp_is_still : L2.Sp := mkSp (ι := (q : Pm) × Nat × List (List (List (Fq q))) × List (List (Fq q))) (fun i X H vs => StOk i.2.1 i.2.2.1 i.2.2.2 ∧ a2 (oCrew i.2.1 i.2.2.1) (oRows i.2.2.2) X H vs) (fun i => oB (stillM i.2.2.1 i.2.2.2))
theorem ev_is_still {q : Pm} {n : Nat} {tabs : List (List (List (Fq q)))} {form : List (List (Fq q))} (hp : StOk n tabs form) (h1 : EvP ta σ X H (oCrew n tabs)) (h2 : EvP tb σ X H (oRows form)) : EvP (tCall sp_is_still [] E0 (tCons ta (tCons tb tNil))) σ X H (oB (stillM tabs form)) :=
  ev_call (⟨q, n, tabs, form⟩ : (q : Pm) × Nat × List (List (List (Fq q))) × List (List (Fq q))) (EvA.pre hp (ea2 h1 h2))
theorem c_is_still (c_has : Ct w K mg base 4 "has" sp_has) (c_led : Ct w K mg base 4 "led" sp_led) (T : Tp K mg) : Ct w K mg base 5 "is_still" sp_is_still := by
  refine ct_mk T (i := 27) (by decide) sc_is_still (fun _ _ _ _ _ _ us hl => match us, hl with | [_, _], _ => rfl) (mkSp_len fun i X H vs h => ?_) fun f cdv A outer s H vs Q E hr h => ?_
  · exact a2_len h.2
  · obtain ⟨⟨q, n, tabs, form⟩, X, k, ⟨⟨ok, hlo⟩, u1, u2, rfl, h1, h2⟩, post⟩ := h
    dsimp only at ok hlo h1 h2 post
    have nd := sc_is_still.nd
    refine ⟨_, PSs.nox (pss_cons (ps_asg (pv 0) (pg_tup (by rfl) (pgs_cons (pg_name (i := 2) nd rfl (Or.inr rfl)) (pgs_cons (pg_name (i := 3) nd rfl (Or.inl rfl)) (pgs_cons (pg_name (i := 4) nd rfl (Or.inl rfl)) pgs_nil)))))
  (pss_cons (ps_for PassesOwn.never rfl (pi_listK K (pv 1)) (pg_name (i := 5) nd rfl (Or.inr rfl))
    (pss_one (ps_if (pt_not (pt_val (pe_callB (cr_allK K rfl) (by rfl) (T.fr "all" (by decide)) (by decide +kernel) (pa_cons (pe_lc (own := [("table", 6)]) (g := gName 6) (tt := tYes) rfl nd (pi_listK K (pv 4)) (blkOk_by (N := N_is_still) (sc := (defScope (topS 27))) (by decide +kernel)) (fun _ _ _ _ _ => pg_name (i := 6) nd rfl (Or.inl rfl)) (fun _ _ _ _ _ => pts_nil) (fun _ _ _ _ _ => pe_ct c_has hr (by decide) (by rfl) (pa_cons (pv 2) (pa_cons (pv 1) (pa_cons (pe_ct c_led hr (by decide) (by rfl) (pa_cons (pv 2) (pa_cons (pv 5) (pa_cons (pv 6) pa_nil)))) pa_nil))))) pa_nil))))
    (pss_one (ps_ret pe_bl)) pss_nil)))
  (pss_one (ps_ret pe_bl)))), ?_⟩
    refine s_unpack3 k (ev_var rfl h1) fun H1 x y z s1 hx hy hz => ?_
    have k1 := k.same s1
    have l1 := Lt.of k s1
    have hx : x = .int (q.n : Int) := hx
    have h2a := rsm s1 h2
    refine s_for k1 (ei_list (ev_var rfl h2a)) fun H2 s2 l2 => ?_
    refine ⟨fun i σ1 H3 => (∃ z1 z2, σ1 = [some u1, some u2, some x, some y, some z, z1, z2]) ∧ Same H1 H3 ∧ ∀ r, r ∈ form.take i → (tabs.all fun A => hasM form (ledM r A)) = true, ⟨⟨none, none, rfl⟩, s2, fun r hr => by rw [List.take_zero] at hr; simp at hr⟩, ?_, ?_⟩
    · rintro i o σ1 H3 H4 vo ho l3 ⟨⟨z1, z2, rfl⟩, sa, hall⟩ s4 hvo
      have s4' := sa.trans s4
      have k4 := (l3.same s4).kn
      have hz4 := rsm s4' hz
      have h24 := rsm s4' h2a
      have hol := hlo.row o (List.mem_of_getElem? ho)
      refine tg1 _ ?_
      refine s_if1 k4 (et_not (et_B (ev_allM (xs := tabs) (f := fun A => hasM form (ledM o A)) ((en_map (R' := fun b : Bool => oB b) _ (ei_list (ev_var rfl hz4)) (oL_len hz4) fun A hA Y H5 v5 l5 rv => ⟨_, tg1, rfl, ?_⟩).ev (by rw [List.length_map]; exact oL_len hz4))))) (fun hb H5 s5 => ?_) fun hb H5 s5 => ?_
      · have ep : oN q.n Y H5 x := hx
        exact ev_has hlo.toPre (ok.ledn hA hol) (ev_var rfl ep) (ev_var rfl (up l5 h24)) (ev_led (ok.led hA hol) (ev_var rfl ep) (ev_var rfl (up l5 hvo)) (ev_var rfl rv))
      · refine s_ret (k4.same s5) ev_c fun H6 v6 s6 o6 => post H6 v6 ((s1.trans s4').trans (s5.trans s6)) ?_
        have e : stillM tabs form = false := by
          cases q' : stillM tabs form with
          | false => rfl
          | true =>
            unfold stillM at q'
            rw [List.all_eq_true] at q'
            rw [q' o (List.mem_of_getElem? ho)] at hb
            cases hb
        show oB (stillM tabs form) X H6 v6
        rw [e]
        exact o6
      · refine ⟨⟨⟨_, _, rfl⟩, s4'.trans s5, fun r hr => ?_⟩, (l3.same s4).same s5⟩
        rw [List.take_add_one, ho] at hr
        rcases List.mem_append.mp hr with hr | hr
        · exact hall r hr
        · have : r = o := by simpa using hr
          rw [this]
          simpa using hb
    · rintro σ1 H3 l3 ⟨⟨z1, z2, rfl⟩, sa, hall⟩
      rw [take_all] at hall
      refine s_ret l3.kn ev_c fun H6 v6 s6 o6 => post H6 v6 ((s1.trans sa).trans s6) ?_
      have e : stillM tabs form = true := by
        unfold stillM
        rw [List.all_eq_true]
        exact hall
      show oB (stillM tabs form) X H6 v6
      rw [e]
      exact o6
theorem still_md {q : Pm} {n : Nat} {tabs : List (List (List (Fq q)))} {form : List (List (Fq q))} (ok : CrOk n tabs) (hlo : Lo n form) (m : Md (ops tabs) (Spn form)) : stillM tabs form = true := by
  unfold stillM
  rw [List.all_eq_true]
  intro r hr
  rw [List.all_eq_true]
  intro A hA
  have hl := hlo.row r hr
  have e := (led_ok (by rw [hl, (ok.sq A hA).1]) (ok.sq A hA).2 (ok.tr hA).ne).2
  rw [has_iff hlo.toPre (ok.ledn hA hl), e]
  exact m.inv _ ⟨A, hA, rfl⟩ _ (Spn.mem hr)
end
end Still

set_option Elab.async false
set_option linter.all false
set_option maxRecDepth 100000
set_option maxHeartbeats 4000000
namespace Still
open PySem PySem.Spec PyProof.Rows L2
section
variable {w : World} {K : PySem.W.Frag} {mg : Str → Option Value} {base : Heap}
variable {σ : L2.St} {X : AX} {H : Hp} {ta tb tc td te : TE}
/-- a while, by turns that each fall -/
theorem s_while1 {c : TT} {t : TS} {D : Ends} (Pv : Nat → L2.St → Hp → Prop) (m0 : Nat) (h0 : Pv m0 σ H)
    (turn : ∀ m σ1 H1, Pv m σ1 H1 → ∃ (X : AX) (b : Bool), Kn X H1 ∧ EvT c σ1 X H1 b ∧ (b = true → ∀ H2, Same H1 H2 → t { D with nx := fun σ' H' => ∃ m', m' < m ∧ Pv m' σ' H', ct := fun σ' H' => ∃ m', m' < m ∧ Pv m' σ' H', bk := D.nx } σ1 H2) ∧ (b = false → ∀ H2, Same H1 H2 → D.nx σ1 H2)) : tWhile c t D σ H := by
  refine ⟨Pv, ⟨m0, h0⟩, fun m σ1 H1 p => ?_⟩
  obtain ⟨X, b, k, hc, yes, no⟩ := turn m σ1 H1 p
  refine hc X H1 (Lt.refl k) _ fun H2 s => ?_
  cases b with
  | true => exact ⟨_, fun σ' H' h => h, yes rfl H2 s⟩
  | false => exact no rfl H2 s
theorem s_while {c : TT} {t u : TS} {D : Ends} (Pv : Nat → L2.St → Hp → Prop) (m0 : Nat) (h0 : Pv m0 σ H)
    (turn : ∀ m σ1 H1, Pv m σ1 H1 → ∃ (X : AX) (b : Bool), Kn X H1 ∧ EvT c σ1 X H1 b ∧ (b = true → ∀ H2, Same H1 H2 → t { D with nx := fun σ' H' => ∃ m', m' < m ∧ Pv m' σ' H', ct := fun σ' H' => ∃ m', m' < m ∧ Pv m' σ' H', bk := u D } σ1 H2) ∧ (b = false → ∀ H2, Same H1 H2 → u D σ1 H2)) : tSeq (tWhile c t) u D σ H := s_while1 (D := { D with nx := u D }) Pv m0 h0 turn
theorem new_ne {X : AX} {l : Addr} (k : Kn X H) (n : H l = none) : ¬ X l := notKn k n
theorem kn_wk {Y : AX} (k : Kn Y H) (h : ∀ a, X a → Y a) : Kn X H := fun a q => k a (h a q)
theorem same_write {l : Addr} {o : HO} {H1 : Hp} (s : Same H H1) (n : H l = none) : Same H (upd H1 l o) := fun b u e => by
  rw [upd_ne (ne_of_none e n)]
  exact s b u e
/-! def across: slots 0=p 1=length 2=form 3=row 4=leads 5=found 6=place 7=at 8=other 9=k -/
abbrev N_across : List Str := ["p", "length", "form", "row", "leads", "found", "place", "at", "other", "k"]
theorem sc_across : FnScope N_across ["p", "length", "form"] (defScope (topS 18)) := ⟨rfl, rfl, rfl, by decide +kernel, rfl, by decide +kernel, by decide +kernel⟩
structure AcOk {q : Pm} (n : Nat) (form : List (List (Fq q))) : Prop where
  pre : Pre n form
  top : n ≤ 5000
def sp_across : L2.Sp := mkSp (ι := (q : Pm) × Nat × List (List (Fq q))) (fun i X H vs => AcOk i.2.1 i.2.2 ∧ a3 (oN i.1.n) (oN i.2.1) (oRows i.2.2) X H vs) (fun i => oRows (acrM i.2.1 i.2.2))
theorem ev_across {q : Pm} {n : Nat} {form : List (List (Fq q))} (hp : AcOk n form) (h1 : EvP ta σ X H (oN q.n)) (h2 : EvP tb σ X H (oN n)) (h3 : EvP tc σ X H (oRows form)) : EvP (tCall sp_across [] E0 (tCons ta (tCons tb (tCons tc tNil)))) σ X H (oRows (acrM n form)) :=
  ev_call (⟨q, n, form⟩ : (q : Pm) × Nat × List (List (Fq q))) (EvA.pre hp (ea3 h1 h2 h3))
def setM {q : Pm} (x : Nat) (ps : List (Nat × List (Fq q))) (r : List (Fq q)) : List (Fq q) := ps.foldl (fun l p => l.set p.1 (0 - vc p.2 x)) r
theorem setM_len {q : Pm} (x : Nat) : ∀ (ps : List (Nat × List (Fq q))) (r : List (Fq q)), (setM x ps r).length = r.length
  | [], _ => rfl
  | p :: ps, r => by
    show (setM x ps (r.set p.1 _)).length = r.length
    rw [setM_len x ps, List.length_set]
theorem setM_arow {q : Pm} (n : Nat) (form : List (List (Fq q))) (x : Nat) : setM x ((form.map ld).zip form) (uM n x) = arowM n form x := by
  unfold setM arowM
  have e : (form.map ld).zip form = form.map fun r => (ld r, r) := by
    rw [List.zip_map_left, List.zip_eq_zipWith, List.zipWith_self, List.map_map]; rfl
  rw [e, List.foldl_map]
theorem filt_step {α β : Type} {p : α → Bool} {f : α → β} {xs : List α} {i : Nat} {x : α} (h : xs[i]? = some x) : ((xs.take (i + 1)).filter p).map f = ((xs.take i).filter p).map f ++ if p x = true then [f x] else [] := by
  rw [List.take_add_one, h, List.filter_append, List.map_append]
  congr 1
  cases e : p x <;> simp [e]
theorem filt_le {α β : Type} {p : α → Bool} {f : α → β} {xs : List α} {i : Nat} : (((xs.take i).filter p).map f).length ≤ xs.length := by
  rw [List.length_map]
  exact Nat.le_trans (List.length_filter_le _ _) (by rw [List.length_take]; omega)
theorem filt_lt {α β : Type} {p : α → Bool} {f : α → β} {xs : List α} {i : Nat} (h : i < xs.length) : (((xs.take i).filter p).map f).length < xs.length := by
  rw [List.length_map]
  exact Nat.lt_of_le_of_lt (List.length_filter_le _ _) (by rw [List.length_take]; omega)
theorem c_across (c_lead : Ct w K mg base 2 "lead" sp_lead) (c_low : Ct w K mg base 5 "low" sp_low) (T : Tp K mg) : Ct w K mg base 6 "across" sp_across := by
  refine ct_mk T (i := 18) (by decide) sc_across (fun _ _ _ _ _ _ us hl => match us, hl with | [_, _, _], _ => rfl) (mkSp_len fun i X H vs h => ?_) fun f cdv A outer s H vs Q E hr h => ?_
  · exact a3_len h.2
  · obtain ⟨⟨q, n, form⟩, X, k, ⟨⟨hp, hn⟩, u1, u2, u3, rfl, h1, h2, h3⟩, post⟩ := h
    dsimp only at hp hn h1 h2 h3 post
    have nd := sc_across.nd
    refine ⟨_, PSs.nox (pss_cons (ps_setLc (i := 4) (own := [("row", 3)]) (g := gName 3) (tt := tYes) rfl nd rfl rfl (sw_true rfl rfl rfl (by decide +kernel)) (pi_listK K (pv 2)) (blkOk_by (N := N_across) (sc := (defScope (topS 18))) (by decide +kernel)) (fun _ _ _ _ _ => pg_name (i := 3) nd rfl (Or.inl rfl)) (fun _ _ _ _ _ => pts_nil) (fun _ _ _ _ _ => pe_ct c_lead hr (by decide) (by rfl) (pa_cons (pv 3) pa_nil)))
  (pss_cons (ps_set (i := 5) nd rfl (.inl rfl) (pe_lst pa_nil))
  (pss_cons (ps_for PassesOwn.never rfl (pi_range1 (by rfl) (T.fr "range" (by decide)) (pa_cons (pv 1) pa_nil)) (pg_name (i := 6) nd rfl (Or.inr rfl))
    (pss_one (ps_if (pt_cmpR (op_notInK K) (pv 6) (pv 4) (by rfl))
    (pss_cons (ps_setLc (i := 3) (own := [("k", 9)]) (g := gName 9) (tt := tYes) rfl nd rfl rfl (sw_true rfl rfl rfl (by decide +kernel)) (pi_range1 (by rfl) (T.fr "range" (by decide)) (pa_cons (pv 1) pa_nil)) (blkOk_by (N := N_across) (sc := (defScope (topS 18))) (by decide +kernel)) (fun _ _ _ _ _ => pg_name (i := 9) nd rfl (Or.inl rfl)) (fun _ _ _ _ _ => pts_nil) (fun _ _ _ _ _ => pe_callTy call_int1 (by rfl) (T.fr "int" (by decide)) boot_int (pa_cons (pe_cmpR op_eq (pv 9) (pv 6) (nomark _)) pa_nil)))
  (pss_cons (ps_for PassesOwn.never rfl (pi_zipK K (by rfl) (T.fr "zip" (by decide)) (pa_cons (pv 4) (pa_cons (pv 2) pa_nil))) (pg_tup (by rfl) (pgs_cons (pg_name (i := 7) nd rfl (Or.inl rfl)) (pgs_cons (pg_name (i := 8) nd rfl (Or.inl rfl)) pgs_nil)))
    (pss_one (ps_asg (pe_op op_modN (pe_op op_sub pe_int (pe_ix (ix_listK K) (pv 8) (pv 6) (fun _ _ => rfl))) (pv 0)) (pg_sub (pv 3) (pv 7) set_list))))
  (pss_one (ps_expr (pe_bm PySem.F.plainAttrs_list PySem.F.slot_list_append PySem.F.type_list_append mt_append (pv 5) (pa_cons (pv 3) pa_nil)))))) pss_nil)))
  (pss_one (ps_ret (pe_ct c_low hr (by decide) (by rfl) (pa_cons (pv 0) (pa_cons (pv 5) pa_nil)))))))), ?_⟩
    have hlt : ∀ r, r ∈ form → ld r < n := fun r hr => hp.lt Fd.ne hr
    refine s_set k ((en_map (R' := fun j : Nat => oN j) ld (ei_list (ev_var rfl h3)) (oL_len h3) fun r hr Y H5 v5 l5 rv => ⟨_, tg1, rfl, lead_ev (hp.hd r hr) (ev_lead (ev_var rfl rv))⟩).ev (by rw [List.length_map]; exact oL_len h3)) fun H1 v1 s1 o1 => ?_
    have k1 := k.same s1
    refine s_new k1 (en_nil (R := fun r : List (Fq q) => oRow r)) fun H2 l vs s2 nl el it2 l2 => ?_
    have k2 := l2.kn
    have hv0 : vs = [] := List.length_eq_zero_iff.mp it2.1
    subst hv0
    have L2 : Lt X H (hid X l) H2 := (Lt.of k s1).trans l2
    have hl0 : H l = none := s1.free nl
    refine s_for k2 (ei_range (ev_var rfl (up L2 h2)) (by omega)) fun H3 s3 l3 => ?_
    refine ⟨fun i σ1 H4 => (∃ y3 y6 y7 y8 acc, σ1 = [some u1, some u2, some u3, y3, some v1, some (.ref l), y6, y7, y8, none] ∧ H4 l = some (.lst acc) ∧ Its (fun r : List (Fq q) => oRow r) (hid X l) H4 acc ((((List.range n).take i).filter fun x => decide (x ∉ form.map ld)).map (arowM n form))) ∧ Same H H4,
      ⟨⟨none, none, none, none, [], rfl, s3 _ _ el, by rw [List.take_zero]; exact Its.nil⟩, (s1.trans s2).trans s3⟩, ?_, ?_⟩
    · rintro i x σ1 H4 H5 vx hx l4 ⟨⟨y3, y6, y7, y8, acc, rfl, ea, ia⟩, sa⟩ s5 hvx
      have l5 := l4.same s5
      have k5 := l5.kn
      have LX : Lt X H (hid X l) H5 := L2.trans (l3.trans l5)
      have o15 : oL (fun j : Nat => oN j) (form.map ld) (hid X l) H5 v1 := up (l2.trans (l3.trans l5)) o1
      obtain ⟨hx1, hx2⟩ := List.getElem?_eq_some_iff.mp hx
      rw [List.getElem_range] at hx2
      rw [List.length_range] at hx1
      have hxn : x < n := by omega
      have ia5 := ia.sm s5
      have ea5 := s5 _ _ ea
      refine tg1 _ ?_
      refine s_if1 k5 (et_test (ev_notIn (ev_var rfl hvx) (ev_var rfl o15))) (fun hb H6 s6 => ?_) fun hb H6 s6 => ?_
      · have k6 := k5.same s6
        have L6 := LX.same s6
        refine s_new k6 (en_map (R := fun j : Nat => oN j) (R' := fun a : Fq q => oF a) (fun j => if j = x then 1 else 0) (ei_range (n := n) (ev_var rfl (up L6 h2)) (by omega)) (by rw [List.length_range]; exact hn) fun j hj Y2 H7 v7 l7 rv7 => ⟨_, tg1, rfl, ?_⟩) fun H7 l7 vs7 s7 n7 e7 it7 lt7 => ?_
        · refine (ev_intB (ev_eq (ev_var rfl rv7) (ev_var rfl (up l7 (rsm s6 hvx))) rfl)).eq ?_
          rw [dec_nat, bit_of (q := q)]
          congr 1
          simp
        · have e0 : vs7 = (uM (F := Fq q) n x).map fun a : Fq q => V.int (vl a) := it7.flat (f := fun a : Fq q => V.int (vl a))
          have k7 := lt7.kn
          have L7 : Lt X H (hid (hid X l) l7) H7 := L6.trans lt7
          have o17 := up lt7 (rsm s6 o15)
          have o37 := up L7 h3
          have hx7 := up lt7 (rsm s6 hvx)
          have h17 := up L7 h1
          have ha7 : H7 l = some (.lst acc) := s7 _ _ (s6 _ _ ea5)
          have ne7 : l ≠ l7 := ne_of_none (s6 _ _ ea5) n7
          refine s_for k7 (ei_zip (ev_var rfl o17) (ev_var rfl o37) (by rw [List.length_map])) fun H8 s8 l8 => ?_
          refine ⟨fun j σ2 H9 => (∃ y7 y8, σ2 = [some u1, some u2, some u3, some (.ref l7), some v1, some (.ref l), some vx, y7, y8, none] ∧ H9 l7 = some (.lst ((setM x (((form.map ld).zip form).take j) (uM n x)).map fun a : Fq q => V.int (vl a))) ∧ H9 l = some (.lst acc)) ∧ Same H6 H9,
            ⟨⟨y7, y8, rfl, by rw [List.take_zero]; rw [s8 _ _ e7, e0]; rfl, s8 _ _ ha7⟩, s7.trans s8⟩, ?_, ?_⟩
          · rintro j pr σ2 H9 H10 vp hpr l9 ⟨⟨y7, y8, rfl, eb, ec⟩, sb⟩ s10 hvp
            have l10 := l9.same s10
            obtain ⟨a, b, hva, hvb, tg⟩ := tg2 (K := K) (i := 7) (j := 8) (σ := [some u1, some u2, some u3, some (.ref l7), some v1, some (.ref l), some vx, y7, y8, none]) hvp
            have hpr2 := hpr
            rw [List.getElem?_zip_eq_some] at hpr2
            have hm := List.mem_of_getElem? hpr2.2
            have hrow := hp.row _ hm
            have hld : pr.1 = ld pr.2 := by
              have := hpr2.1
              rw [List.getElem?_map, hpr2.2] at this
              exact (Option.some.inj this).symm
            refine tg _ ?_
            have lk := l8.trans l10
            refine s_put (j := pr.1) (O := oF (0 - vc pr.2 x)) l10.kn rfl (s10 _ _ eb) ?_ (ev_modF (i := 0 - vl (vc pr.2 x)) (ev_I0 ev_int (ev_ix (R := fun a : Fq q => oF a) (i := x) (ev_var rfl hvb) (ev_var rfl (up lk hx7)) (vc_get (by rw [hrow]; exact hxn)))) (ev_var rfl (up lk h17)) ?_) (ev_var rfl hva) fun H11 v11 s11 o11 => ?_
            · rw [List.length_map, setM_len, u_len, hld]
              exact hlt _ hm
            · rw [vl_sub, vl_zero]
            · have e11 : v11 = .int (vl (0 - vc pr.2 x)) := o11
              subst e11
              refine ⟨⟨⟨_, _, rfl, ?_, ?_⟩, same_write ((sb.trans s10).trans s11) n7⟩, (l10.same s11).write (.inr rfl)⟩
              · rw [upd_same, cell_set]
                unfold setM
                rw [take_fold _ _ hpr]
              · rw [upd_ne ne7]
                exact s11 _ _ (s10 _ _ ec)
          · rintro σ2 H9 l9 ⟨⟨y7, y8, rfl, eb, ec⟩, sb⟩
            rw [take_all, setM_arow] at eb
            have k9 : Kn (hid X l) H9 := kn_wk l9.kn hid_wk
            have hnl7 : ¬ hid X l l7 := notKn k6 n7
            have alen : (arowM n form x).length = n := by rw [← setM_arow, setM_len, u_len]
            have or : oRow (arowM n form x) (hid X l) H9 (.ref l7) := oL.mk hnl7 eb Its.of_flat (by rw [alen]; exact hn)
            have hfl : (((List.range n).take i).filter fun x => decide (x ∉ form.map ld)).length < n := by
              have := filt_lt (f := fun x : Nat => x) (p := fun x => decide (x ∉ form.map ld)) (xs := List.range n) (i := i) (by rw [List.length_range]; exact hx1)
              rw [List.length_map, List.length_range] at this
              exact this
            refine s_append k9 rfl ec (by rw [ia.1, List.length_map]; omega) (ev_var rfl or) fun H10 v10 s10 o10 => ?_
            have l79 : Lt (hid X l) H6 (hid (hid X l) l7) H9 := lt7.trans (l8.trans l9)
            have i9 : Its (fun r : List (Fq q) => oRow r) (hid X l) H9 acc ((((List.range n).take i).filter fun x => decide (x ∉ form.map ld)).map (arowM n form)) := ((ia5.sm s6).up l79).dn hid_wk
            have l9' : Lt (hid X l) H6 (hid X l) H9 := ⟨fun a o na e => ⟨na, (l79.go a o na e).2⟩, k9, fun _ h => h⟩
            have lw : Lt (hid X l) H10 (hid X l) (upd H10 l (.lst (acc ++ [v10]))) := (Lt.refl (k9.same s10)).write (.inr rfl)
            refine ⟨⟨⟨_, _, _, _, _, rfl, upd_same, ?_⟩, same_write ((sa.trans s5).trans (s6.trans (sb.trans s10))) hl0⟩, ((l5.same s6).trans (l9'.same s10)).trans lw⟩
            rw [filt_step hx, if_pos hb]
            exact ((i9.sm s10).up lw).snoc (up lw o10)
      · refine ⟨⟨⟨_, _, _, _, _, rfl, s6 _ _ ea5, ?_⟩, (sa.trans s5).trans s6⟩, l5.same s6⟩
        rw [filt_step hx, if_neg (by rw [hb]; simp), List.append_nil]
        exact ia5.sm s6
    · rintro σ1 H4 l4 ⟨⟨y3, y6, y7, y8, acc, rfl, ea, ia⟩, sa⟩
      rw [take_all] at ia
      have k4 : Kn X H4 := kn_wk l4.kn hid_wk
      have ofound : oRows ((frees_ n form).map (arowM n form)) X H4 (.ref l) := oL.mk (notKn k1 nl) ea (ia.dn hid_wk) (by
        have := filt_le (f := fun x : Nat => x) (p := fun x => decide (x ∉ form.map ld)) (xs := List.range n) (i := n)
        rw [List.length_map, List.length_range] at this
        rw [List.length_map]
        unfold frees_
        have h2 := List.length_filter_le (fun x => decide (x ∉ form.map ld)) (List.range n)
        rw [List.length_range] at h2
        omega)
      exact s_ret k4 (ev_low (acr_rows hp) (ev_var rfl (dn hid_wk (up (L2.trans (l3.trans l4)) h1))) (ev_var rfl ofound)) fun H5 v5 s5 o5 => post H5 v5 (sa.trans s5) o5
end
end Still

set_option Elab.async false
set_option linter.all false
set_option maxRecDepth 100000
set_option maxHeartbeats 4000000
namespace Still
open PySem PySem.Spec PyProof.Rows L2
section
variable {w : World} {K : PySem.W.Frag} {mg : Str → Option Value} {base : Heap}
variable {σ : L2.St} {X : AX} {H : Hp} {ta tb tc td te : TE}
theorem Its.flatN {xs : List Nat} {vs : List V} (h : Its (fun k : Nat => oN k) X H vs xs) : vs = xs.map fun k : Nat => V.int (k : Int) := h.flat (f := fun k : Nat => V.int (k : Int))
theorem Its.init {α : Type} {R : α → Ob} {vs : List V} {u : V} {xs : List α} {x : α} (h : Its R X H (vs ++ [u]) (xs ++ [x])) : Its R X H vs xs ∧ R x X H u := by
  have hl : vs.length = xs.length := by
    have := h.1
    simpa using this
  refine ⟨⟨hl, fun i v y e1 e2 => h.2 i v y ?_ ?_⟩, h.2 vs.length u x ?_ ?_⟩
  · rw [List.getElem?_append_left (List.getElem?_eq_some_iff.mp e1).1]; exact e1
  · rw [List.getElem?_append_left (List.getElem?_eq_some_iff.mp e2).1]; exact e2
  · simp
  · rw [hl]; simp
/-- x = xs.pop() of a hidden list -/
theorem s_pop {α : Type} {R : α → Ob} {i j : Nat} {l : Addr} {acc : List V} {xs : List α} {x : α} {u : TS} {D : Ends} (e : σ[i]? = some (some (.ref l))) (hl : H l = some (.lst acc)) (it : Its R X H acc (xs ++ [x])) 
    (next : ∀ vs v, acc = vs ++ [v] → Its R X H vs xs → R x X H v → u D (σ.set j (some v)) (upd H l (.lst vs))) : tSeq (tAsg (tBM0 K "list" rPop (tVar i)) (gName j)) u D σ H := by
  have hne : acc ≠ [] := fun z => by
    have := it.1
    rw [z] at this
    simp at this
  have ea : acc = acc.dropLast ++ [acc.getLast hne] := (List.dropLast_concat_getLast hne).symm
  have it2 := it
  rw [ea] at it2
  obtain ⟨i1, i2⟩ := it2.init
  refine ⟨.ref l, e, .inl ⟨rfl, _, .inl (.inl hl)⟩, l, acc, acc.getLast hne, rfl, rfl, hl, ?_, next _ _ ea i1 i2⟩
  rw [List.getLast_eq_getElem, List.getElem?_eq_getElem]
/-! def spin: slots 0=crew 1=rows 2=p 3=size 4=tables 5=form 6=waiting 7=row 8=table 9=there -/
abbrev N_spin : List Str := ["crew", "rows", "p", "size", "tables", "form", "waiting", "row", "table", "there"]
theorem sc_spin : FnScope N_spin ["crew", "rows"] (defScope (topS 28)) := ⟨rfl, rfl, rfl, by decide +kernel, rfl, by decide +kernel, by decide +kernel⟩
structure SpnOk {q : Pm} (n : Nat) (tabs : List (List (List (Fq q)))) (rows : List (List (Fq q))) : Prop where
  cr : CrOk n tabs
  row : ∀ r, r ∈ rows → r.length = n
def sp_spin : L2.Sp := mkSp (ι := (q : Pm) × Nat × List (List (List (Fq q))) × List (List (Fq q))) (fun i X H vs => SpnOk i.2.1 i.2.2.1 i.2.2.2 ∧ a2 (oCrew i.2.1 i.2.2.1) (oRows i.2.2.2) X H vs) (fun i => oEx (fun f : List (List (Fq i.1)) => oRows f) (Spun i.2.1 i.2.2.1 i.2.2.2))
theorem ev_spin {q : Pm} {n : Nat} {tabs : List (List (List (Fq q)))} {rows : List (List (Fq q))} (hp : SpnOk n tabs rows) (h1 : EvP ta σ X H (oCrew n tabs)) (h2 : EvP tb σ X H (oRows rows)) : EvP (tCall sp_spin [] E0 (tCons ta (tCons tb tNil))) σ X H (oEx (fun f : List (List (Fq q)) => oRows f) (Spun n tabs rows)) :=
  ev_call (⟨q, n, tabs, rows⟩ : (q : Pm) × Nat × List (List (List (Fq q))) × List (List (Fq q))) (EvA.pre hp (ea2 h1 h2))
theorem c_spin (c_low : Ct w K mg base 5 "low" sp_low) (c_led : Ct w K mg base 4 "led" sp_led) (c_has : Ct w K mg base 4 "has" sp_has) (c_with_row : Ct w K mg base 4 "with_row" sp_with_row) (T : Tp K mg) : Ct w K mg base 6 "spin" sp_spin := by
  refine ct_mk T (i := 28) (by decide) sc_spin (fun _ _ _ _ _ _ us hl => match us, hl with | [_, _], _ => rfl) (mkSp_len fun i X H vs h => ?_) fun f cdv A outer s H vs Q E hr h => ?_
  · exact a2_len h.2
  · obtain ⟨⟨q, n, tabs, rows⟩, X, k, ⟨⟨ok, hrow⟩, u1, u2, rfl, h1, h2⟩, post⟩ := h
    dsimp only at ok hrow h1 h2 post
    have nd := sc_spin.nd
    refine ⟨_, PSs.nox (pss_cons (ps_asg (pv 0) (pg_tup (by rfl) (pgs_cons (pg_name (i := 2) nd rfl (Or.inl rfl)) (pgs_cons (pg_name (i := 3) nd rfl (Or.inl rfl)) (pgs_cons (pg_name (i := 4) nd rfl (Or.inl rfl)) pgs_nil)))))
  (pss_cons (ps_set (i := 5) nd rfl (.inl rfl) (pe_ct c_low hr (by decide) (by rfl) (pa_cons (pv 2) (pa_cons (pv 1) pa_nil))))
  (pss_cons (ps_set (i := 6) nd rfl (.inl rfl) (pe_callTy (call_listK K) (by rfl) (T.fr "list" (by decide)) (by decide +kernel) (pa_cons (pv 5) pa_nil)))
  (pss_cons (ps_while PassesOwn.never (PW.pt (pw_and (pt_cmpR op_gt (pe_callB (call_lenK K) (by rfl) (T.fr "len" (by decide)) PySem.boot_len (pa_cons (pv 6) pa_nil)) pe_int (nomark _)) (pw_and1 (pt_cmpR op_lt (pe_callB (call_lenK K) (by rfl) (T.fr "len" (by decide)) PySem.boot_len (pa_cons (pv 5) pa_nil)) (pv 3) (nomark _)))))
    (pss_cons (ps_set (i := 7) nd rfl (.inl rfl) (pe_bm0 PySem.F.plainAttrs_list PySem.F.slot_list_pop PySem.F.type_list_pop mt_pop (pv 6)))
  (pss_one (ps_for PassesOwn.never rfl (pi_listK K (pv 4)) (pg_name (i := 8) nd rfl (Or.inl rfl))
    (pss_cons (ps_set (i := 9) nd rfl (.inl rfl) (pe_ct c_led hr (by decide) (by rfl) (pa_cons (pv 2) (pa_cons (pv 7) (pa_cons (pv 8) pa_nil)))))
  (pss_one (ps_if (pt_not (pt_val (pe_ct c_has hr (by decide) (by rfl) (pa_cons (pv 2) (pa_cons (pv 5) (pa_cons (pv 9) pa_nil))))))
    (pss_cons (ps_set (i := 5) nd rfl (.inl rfl) (pe_ct c_with_row hr (by decide) (by rfl) (pa_cons (pv 2) (pa_cons (pv 5) (pa_cons (pv 9) pa_nil)))))
  (pss_one (ps_expr (pe_bm PySem.F.plainAttrs_list PySem.F.slot_list_append PySem.F.type_list_append mt_append (pv 6) (pa_cons (pv 9) pa_nil))))) pss_nil)))))))
  (pss_one (ps_ret (pe_lc (own := [("row", 7)]) (g := gName 7) (tt := tYes) rfl nd (pi_listK K (pv 5)) (blkOk_by (N := N_spin) (sc := (defScope (topS 28))) (by decide +kernel)) (fun _ _ _ _ _ => pg_name (i := 7) nd rfl (Or.inl rfl)) (fun _ _ _ _ _ => pts_nil) (fun _ _ _ _ _ => pe_callTy (call_listK K) (by rfl) (T.fr "list" (by decide)) (by decide +kernel) (pa_cons (pv 7) pa_nil))))))))), ?_⟩
    refine s_unpack3 k (ev_var rfl h1) fun H1 x y z s1 hx hy hz => ?_
    have hx : x = .int (q.n : Int) := hx
    have hy : y = .int (n : Int) := hy
    have px : ∀ {X H}, oN q.n X H x := fun {_ _} => hx
    have py : ∀ {X H}, oN n X H y := fun {_ _} => hy
    have k1 := k.same s1
    refine s_set k1 (ev_low hrow (ev_var rfl px) (ev_var rfl (rsm s1 h2))) fun H2 v2 s2 o2 => ?_
    have k2 := k1.same s2
    have hz2 := rsm s2 hz
    refine s_new k2 (en_list (ev_var rfl o2)) fun H3 l vs s3 nl el it3 l3 => ?_
    have hl0 : H l = none := (s1.trans s2).free nl
    have hz3 := up l3 hz2
    have hlow := lo_len (low_lo (n := n) hrow).toPre
    have htop := ok.top
    refine s_while (fun m σ1 H4 => ∃ form wt vf acc y7 y8 y9, σ1 = [some u1, some u2, some x, some y, some z, some vf, some (.ref l), y7, y8, y9] ∧ oRows form (hid X l) H4 vf ∧ H4 l = some (.lst acc) ∧ Its (fun r : List (Fq q) => oRow r) (hid X l) H4 acc wt ∧ SpI n tabs rows form wt [] 0 ∧ (wt.length + (n - form.length) = m ∧ m ≤ n) ∧ Lt (hid X l) H3 (hid X l) H4 ∧ Same H H4)
      n ⟨lowM rows, lowM rows, v2, vs, none, none, none, rfl, up l3 o2, el, it3, SpI.start hrow, ⟨by omega, Nat.le_refl _⟩, Lt.refl l3.kn, (s1.trans s2).trans s3⟩ ?_
    rintro m σ1 H4 ⟨form, wt, vf, acc, y7, y8, y9, rfl, hvf, ea, ia, spi, ⟨hm, hmn⟩, l4, sa⟩
    have hnl : ¬ X l := notKn k2 nl
    have k4 : Kn X H4 := kn_wk l4.kn hid_wk
    have ow : oRows wt X H4 (.ref l) := oL.mk hnl ea (ia.dn hid_wk) (by omega)
    have of4 : oRows form X H4 vf := dn hid_wk hvf
    have hfl := lo_len spi.lo.toPre
    refine ⟨X, decide ((0 : Int) < (wt.length : Int)) && decide ((form.length : Int) < (n : Int)), k4, et_and (et_test (ev_I0 (ev_len (ev_var rfl ow)) ev_int)) (fun _ => et_test (ev_I0 (ev_len (ev_var rfl of4)) (ev_var rfl py))), fun hb H5 s5 => ?_, fun hb H5 s5 => ?_⟩
    · rw [Bool.and_eq_true, decide_eq_true_eq, decide_eq_true_eq] at hb
      have hne : wt ≠ [] := fun z => by rw [z] at hb; simp at hb
      have ew : wt = wt.dropLast ++ [wt.getLast hne] := (List.dropLast_concat_getLast hne).symm
      generalize wt.dropLast = w0 at ew
      generalize wt.getLast hne = row at ew
      subst ew
      have l5 := l4.same s5
      refine s_pop rfl (s5 _ _ ea) (ia.sm s5) fun vs0 v eacc iv ov => ?_
      subst eacc
      have lw : Lt (hid X l) H5 (hid X l) (upd H5 l (.lst vs0)) := (Lt.refl l5.kn).write (.inr rfl)
      have l6 := l5.trans lw
      have hvf6 := up lw (rsm s5 hvf)
      have ov6 := up lw ov
      have iv6 := iv.up lw
      have sp0 := spi.pop
      rw [List.length_append, List.length_singleton] at hm
      refine s_for1 l6.kn (ei_list (ev_var rfl (up l6 hz3))) fun H7 s7 l7 => ?_
      refine ⟨fun i σ2 H8 => ∃ form wt vf acc y8 y9, σ2 = [some u1, some u2, some x, some y, some z, some vf, some (.ref l), some v, y8, y9] ∧ oRows form (hid X l) H8 vf ∧ H8 l = some (.lst acc) ∧ Its (fun r : List (Fq q) => oRow r) (hid X l) H8 acc wt ∧ SpI n tabs rows form wt [row] i ∧ wt.length + (n - form.length) + 1 = m ∧ Same H H8,
        ⟨form, w0, vf, vs0, y8, y9, rfl, rsm s7 hvf6, s7 _ _ upd_same, iv6.sm s7, sp0, by omega, (same_write (sa.trans s5) hl0).trans s7⟩, ?_, ?_⟩
      · rintro i A σ2 H8 H9 vA hA l8 ⟨form, wt, vf, acc, y8, y9, rfl, of8, ea8, ia8, sp8, hm8, sa8⟩ s9 hvA
        have l9 := l8.same s9
        have k9 := l9.kn
        have hAm := List.mem_of_getElem? hA
        have ov9 : oRow row (hid X l) H9 v := up (l7.trans l9) ov6
        have hrl : row.length = n := (sp8.wl row (by simp)).1
        refine tg1 _ ?_
        refine s_set k9 (ev_led (ok.led hAm hrl) (ev_var rfl px) (ev_var rfl ov9) (ev_var rfl hvA)) fun H10 v10 s10 o10 => ?_
        have k10 := k9.same s10
        have of10 := rsm (s9.trans s10) of8
        have hll := ok.ledn hAm hrl
        have sp9 := sp8
        refine s_if1 k10 (et_not (et_B (ev_has sp8.lo.toPre hll (ev_var rfl px) (ev_var rfl of10) (ev_var rfl o10)))) (fun hb H11 s11 => ?_) fun hb H11 s11 => ?_
        · have hh : hasM form (ledM row A) = false := by simpa using hb
          have k11 := k10.same s11
          have spg := sp8.grow ok.sq ok.pos hA
          have hl2 := lo_len spg.lo.toPre
          have hwl := wr_len (n := n) hh
          refine s_set k11 (ev_with_row sp8.lo hll (ev_var rfl px) (ev_var rfl (rsm s11 of10)) (ev_var rfl (rsm s11 o10))) fun H12 v12 s12 o12 => ?_
          have k12 := k11.same s12
          have s912 := s9.trans (s10.trans (s11.trans s12))
          refine s_append k12 rfl (s912 _ _ ea8) (by rw [ia8.1]; omega) (ev_var rfl (rsm (s11.trans s12) o10)) fun H13 v13 s13 o13 => ?_
          have lw13 : Lt (hid X l) H13 (hid X l) (upd H13 l (.lst (acc ++ [v13]))) := (Lt.refl (k12.same s13)).write (.inr rfl)
          refine ⟨⟨wrM form (ledM row A), wt ++ [ledM row A], v12, acc ++ [v13], _, _, rfl, up lw13 (rsm s13 o12), upd_same, (((ia8.sm s912).sm s13).up lw13).snoc (up lw13 o13), spg, by rw [List.length_append, List.length_singleton, hwl]; omega, same_write ((sa8.trans s912).trans s13) hl0⟩, ((l9.same s10).trans (((Lt.refl k10).same s11).same (s12.trans s13))).trans lw13⟩
        · have hh : hasM form (ledM row A) = true := by simpa using hb
          exact ⟨⟨form, wt, vf, acc, _, _, rfl, rsm s11 of10, s11 _ _ (s10 _ _ (s9 _ _ ea8)), ((ia8.sm s9).sm s10).sm s11, sp8.keep ok.sq ok.pos hA hh, hm8, sa8.trans (s9.trans (s10.trans s11))⟩, ((l9.same s10).same s11)⟩
      · rintro σ2 H8 l8 ⟨form, wt, vf, acc, y8, y9, rfl, of8, ea8, ia8, sp8, hm8, sa8⟩
        exact ⟨m - 1, by omega, form, wt, vf, acc, _, _, _, rfl, of8, ea8, ia8, sp8.next, ⟨by omega, by omega⟩, l6.trans (l7.trans l8), sa8⟩
    · have sp : Spun n tabs rows form := by
        cases wt with
        | nil => exact spi.end1
        | cons r t =>
          refine spi.end2 ok.sq ?_
          rw [List.length_cons] at hb
          simp at hb
          omega
      have hm := (en_map (σ := [some u1, some u2, some x, some y, some z, some vf, some (.ref l), y7, y8, y9]) (g := gName 7) (te := tCB (rListK K) (tCons (tVar 7) tNil)) (ss := [7]) (R' := fun r : List (Fq q) => oRow r) (fun r => r) (ei_list (K := K) (ev_var (i := 5) rfl (rsm s5 of4))) (oL_len of4) fun o ho Y H6 v6 l6 rv => ⟨_, tg1, rfl, (en_list (ev_var rfl rv)).ev (oL_len rv)⟩)
      rw [List.map_id'] at hm
      exact s_ret (k4.same s5) (hm.ev (oL_len of4)) fun H6 v6 s6 o6 => post H6 v6 ((sa.trans s5).trans s6) ⟨form, sp, o6⟩
/-! def row_numbered: slots 0=p 1=size 2=number 3=found 4=k -/
abbrev N_row_numbered : List Str := ["p", "size", "number", "found", "k"]
theorem sc_row_numbered : FnScope N_row_numbered ["p", "size", "number"] (defScope (topS 30)) := ⟨rfl, rfl, rfl, by decide +kernel, rfl, by decide +kernel, by decide +kernel⟩
def sp_row_numbered : L2.Sp := mkSp (ι := Pm × Nat × Nat) (fun i X H vs => i.2.1 ≤ 36 ∧ a3 (oN i.1.n) (oN i.2.1) (oN i.2.2) X H vs) (fun i => oRow (rowN i.1 i.2.1 i.2.2))
theorem ev_row_numbered {q : Pm} {n m : Nat} (hn : n ≤ 36) (h1 : EvP ta σ X H (oN q.n)) (h2 : EvP tb σ X H (oN n)) (h3 : EvP tc σ X H (oN m)) : EvP (tCall sp_row_numbered [] E0 (tCons ta (tCons tb (tCons tc tNil)))) σ X H (oRow (rowN q n m)) :=
  ev_call ((q, n, m) : Pm × Nat × Nat) (EvA.pre hn (ea3 h1 h2 h3))
theorem ev_rev {α : Type} {R : α → Ob} {xs : List α} [∀ x, Rep (R x)] (h : EvP ta σ X H (oL R xs)) : EvN (tRevL K ta) σ X H R xs.reverse := fun Y H1 l Q q =>
  h Y H1 l _ fun H2 v s o => by
    obtain ⟨a, vs, rfl, n, e, it, b⟩ := o.its
    refine ⟨a, vs, rfl, .inl (.inl e), fun p np => q _ p vs.reverse (s.trans (same_new np)) (s.free np) upd_same ?_⟩
    refine Its.new ⟨by rw [List.length_reverse, List.length_reverse, it.1], fun i u x e1 e2 => ?_⟩ (l.kn.same s) np
    have hi := (List.getElem?_eq_some_iff.mp e1).1
    rw [List.length_reverse] at hi
    rw [List.getElem?_reverse hi] at e1
    rw [List.getElem?_reverse (by rw [← it.1]; exact hi), ← it.1] at e2
    exact it.2 _ u x e1 e2
theorem c_row_numbered (T : Tp K mg) : Ct w K mg base 1 "row_numbered" sp_row_numbered := by
  refine ct_mk T (i := 30) (by decide) sc_row_numbered (fun _ _ _ _ _ _ us hl => match us, hl with | [_, _, _], _ => rfl) (mkSp_len fun i X H vs h => ?_) fun f cdv A outer s H vs Q E hr h => ?_
  · exact a3_len h.2
  · obtain ⟨⟨q, n, m⟩, X, k, ⟨hn, u1, u2, u3, rfl, h1, h2, h3⟩, post⟩ := h
    dsimp only at hn h1 h2 h3 post
    have nd := sc_row_numbered.nd
    refine ⟨_, PSs.nox (pss_cons (ps_set (i := 3) nd rfl (.inl rfl) (pe_lst pa_nil))
  (pss_cons (ps_for PassesOwn.never rfl (pi_range1 (by rfl) (T.fr "range" (by decide)) (pa_cons (pv 1) pa_nil)) (pg_name (i := 4) nd rfl (Or.inl rfl))
    (pss_cons (ps_expr (pe_bm PySem.F.plainAttrs_list PySem.F.slot_list_append PySem.F.type_list_append mt_append (pv 3) (pa_cons (pe_op op_modN (pv 2) (pv 0)) pa_nil)))
  (pss_one (ps_set (i := 2) nd rfl (.inl rfl) (pe_op op_fdivN (pv 2) (pv 0))))))
  (pss_one (ps_ret (pe_revK K (pv 3)))))), ?_⟩
    have hq := q.pos
    have h1 : u1 = .int (q.n : Int) := h1
    have px : ∀ {X H}, oN q.n X H u1 := fun {_ _} => h1
    refine s_new k (en_nil (R := fun a : Fq q => oF a)) fun H2 l vs s2 nl ell it2 l2 => ?_
    have hv0 : vs = [] := List.length_eq_zero_iff.mp it2.1
    subst hv0
    refine s_for l2.kn (ei_range (ev_var rfl (up l2 h2)) (by omega)) fun H3 s3 l3 => ?_
    refine ⟨fun i σ1 H4 => (∃ z, σ1 = [some u1, some u2, some (.int ((m / q.n ^ i : Nat) : Int)), some (.ref l), z]) ∧ H4 l = some (.lst ((digs q i m).map fun a => V.int (vl a))) ∧ Same H H4, ⟨⟨none, by rw [Nat.pow_zero, Nat.div_one]; have h3 : u3 = .int (m : Int) := h3; rw [h3]; rfl⟩, s3 _ _ ell, s2.trans s3⟩, ?_, ?_⟩
    · rintro i o σ1 H4 H5 vo ho l4 ⟨⟨z, rfl⟩, ea, sa⟩ s5 hvo
      have hi : i < n := by have := (List.getElem?_eq_some_iff.mp ho).1; rw [List.length_range] at this; exact this
      have l5 := l4.same s5
      refine tg1 _ ?_
      refine s_append (D := { nx := _, rt := _, bk := _, ct := _ }) l5.kn rfl (s5 _ _ ea) (by rw [List.length_map, digs_len]; omega) (ev_modF (a := el q ((m / q.n ^ i : Nat) : Int)) (ev_var rfl rfl) (ev_var rfl px) (by rw [vl_el])) fun H6 v6 s6 o6 => ?_
      have lw : Lt (hid X l) H6 (hid X l) (upd H6 l (.lst ((digs q i m).map (fun a => V.int (vl a)) ++ [v6]))) := (Lt.refl (l5.kn.same s6)).write (.inr rfl)
      refine s_set1 lw.kn (ev_div (ev_var rfl rfl) (ev_var rfl px) (by omega) (by omega)) fun H7 v7 s7 o7 => ?_
      have e6 : v6 = .int (vl (el q ((m / q.n ^ i : Nat) : Int))) := o6
      have e7 : v7 = .int (((m / q.n ^ i : Nat) : Int) / (q.n : Int)) := o7
      subst e6 e7
      refine ⟨⟨⟨some vo, ?_⟩, ?_, (same_write (sa.trans (s5.trans s6)) nl).trans s7⟩, ((l5.same s6).trans lw).same s7⟩
      · rw [← Int.natCast_ediv, Nat.div_div_eq_div_mul, ← Nat.pow_succ]
        rfl
      · rw [s7 _ _ upd_same, digs_snoc, List.map_append]
        rfl
    · rintro σ1 H4 l4 ⟨⟨z, rfl⟩, ea, sa⟩
      rw [List.length_range] at ea
      have or : oRow (digs q n m) X H4 (.ref l) := oL.mk (notKn k nl) ea Its.of_flat (by rw [digs_len]; omega)
      exact s_ret (kn_wk l4.kn hid_wk) ((ev_rev (ev_var rfl or)).ev (by rw [List.length_reverse, digs_len]; omega)) fun H5 v5 s5 o5 => post H5 v5 (sa.trans s5) o5
end
end Still

set_option Elab.async false
set_option linter.all false
set_option maxRecDepth 100000
set_option maxHeartbeats 4000000
namespace Still
open PySem PySem.Spec PyProof.Rows L2
section
variable {w : World} {K : PySem.W.Frag} {mg : Str → Option Value} {base : Heap}
variable {σ : L2.St} {X : AX} {H : Hp} {ta tb tc td te : TE}
/-! def first_rows: slots 0=p 1=size 2=rows 3=number 4=row -/
abbrev N_first_rows : List Str := ["p", "size", "rows", "number", "row"]
theorem sc_first_rows : FnScope N_first_rows ["p", "size"] (defScope (topS 31)) := ⟨rfl, rfl, rfl, by decide +kernel, rfl, by decide +kernel, by decide +kernel⟩
structure FrOk (q : Pm) (n : Nat) : Prop where
  top : n ≤ 36
  bd : q.n ^ n ≤ 5000
def sp_first_rows : L2.Sp := mkSp (ι := Pm × Nat) (fun i X H vs => FrOk i.1 i.2 ∧ a2 (oN i.1.n) (oN i.2) X H vs) (fun i => oRows (firstM i.1 i.2))
theorem ev_first_rows {q : Pm} {n : Nat} (hn : FrOk q n) (h1 : EvP ta σ X H (oN q.n)) (h2 : EvP tb σ X H (oN n)) : EvP (tCall sp_first_rows [] E0 (tCons ta (tCons tb tNil))) σ X H (oRows (firstM q n)) :=
  ev_call ((q, n) : Pm × Nat) (EvA.pre hn (ea2 h1 h2))
theorem pow_pos' (q : Pm) (n : Nat) : 1 ≤ q.n ^ n := Nat.pow_pos (by have := q.pos; omega)
theorem vl_eq1 {q : Pm} (a : Fq q) : decide (V.int (vl a) = V.int 1) = decide (a = 1) := by
  by_cases h : a = 1
  · subst h; rw [vl_one]; simp
  · have : vl a ≠ 1 := fun z => h (vl_inj (z.trans vl_one.symm))
    simp [h, this]
theorem c_first_rows (c_many_rows : Ct w K mg base 1 "many_rows" sp_many_rows) (c_row_numbered : Ct w K mg base 1 "row_numbered" sp_row_numbered) (T : Tp K mg) : Ct w K mg base 2 "first_rows" sp_first_rows := by
  refine ct_mk T (i := 31) (by decide) sc_first_rows (fun _ _ _ _ _ _ us hl => match us, hl with | [_, _], _ => rfl) (mkSp_len fun i X H vs h => ?_) fun f cdv A outer s H vs Q E hr h => ?_
  · exact a2_len h.2
  · obtain ⟨⟨q, n⟩, X, k, ⟨⟨hn, hb⟩, u1, u2, rfl, h1, h2⟩, post⟩ := h
    dsimp only at hn hb h1 h2 post
    have nd := sc_first_rows.nd
    refine ⟨_, PSs.nox (pss_cons (ps_setLc (i := 2) (own := [("number", 3)]) (g := gName 3) (tt := tYes) rfl nd rfl rfl (sw_true rfl rfl rfl (by decide +kernel)) (pi_range2 (by rfl) (T.fr "range" (by decide)) (pa_cons pe_int (pa_cons (pe_ct c_many_rows hr (by decide) (by rfl) (pa_cons (pv 0) (pa_cons (pv 1) pa_nil))) pa_nil))) (blkOk_by (N := N_first_rows) (sc := (defScope (topS 31))) (by decide +kernel)) (fun _ _ _ _ _ => pg_name (i := 3) nd rfl (Or.inl rfl)) (fun _ _ _ _ _ => pts_nil) (fun _ _ _ _ _ => pe_ct c_row_numbered hr (by decide) (by rfl) (pa_cons (pv 0) (pa_cons (pv 1) (pa_cons (pv 3) pa_nil)))))
  (pss_one (ps_ret (pe_lc (own := [("row", 4)]) (g := gName 4) rfl nd (pi_listK K (pv 2)) (blkOk_by (N := N_first_rows) (sc := (defScope (topS 31))) (by decide +kernel)) (fun _ _ _ _ _ => pg_name (i := 4) nd rfl (Or.inl rfl)) (fun _ _ _ _ _ => pts_one (pt_cmpR op_eq (pe_ix (ix_listK K) (pe_lc (own := [("number", 3)]) (g := gName 3) rfl nd (pi_listK K (pv 4)) (blkOk_by (N := N_first_rows) (sc := ({ kind := .function, names := [(".0", .local), ("row", .local)], isGenerator := false, isCoroutine := false, more := [] } : Scope)) (by decide +kernel)) (fun _ _ _ _ _ => pg_name (i := 3) nd rfl (Or.inl rfl)) (fun _ _ _ _ _ => pts_one (pt_cmpR op_ne (pv 3) pe_int (nomark _))) (fun _ _ _ _ _ => pv 3)) pe_int (fun _ _ => rfl)) pe_int (nomark _))) (fun _ _ _ _ _ => pv 4))))), ?_⟩
    have hp1 := pow_pos' q n
    have hlen : ((List.range (q.n ^ n - 1)).map fun i => rowN q n (1 + i)).length ≤ 5000 := by rw [List.length_map, List.length_range]; omega
    refine s_set k ((en_map (R := fun k : Nat => oN (1 + k)) (R' := fun r : List (Fq q) => oRow r) (fun i => rowN q n (1 + i)) (ei_range2 (m := 1) (n := q.n ^ n) ev_nat (ev_many_rows (by omega) (ev_var rfl h1) (ev_var rfl h2)) hp1 (by omega)) (by rw [List.length_range]; omega) fun i hi Y H5 v5 l5 rv => ⟨_, tg1, rfl, ev_row_numbered hn (ev_var rfl (up l5 h1)) (ev_var rfl (up l5 h2)) (ev_var rfl rv)⟩).ev hlen) fun H1 v1 s1 o1 => ?_
    have hfin : (((List.range (q.n ^ n - 1)).map fun i => rowN q n (1 + i)).filter headOk).length ≤ 5000 := Nat.le_trans (List.length_filter_le _ _) hlen
    have e := en_lc (σ := (start N_first_rows [u1, u2]).set 2 (some v1)) (g := gName 4) (ss := [4]) (te := tVar 4) (R' := fun r : List (Fq q) => oRow r) (fun r => r) headOk (ei_list (K := K) (ta := tVar 2) (ev_var rfl o1)) hlen (tt := tTest (tOp rEq (tOp (rIxL K) (tLc (iList K (tVar 4)) (gName 3) (tTest (tOp rNe (tVar 3) (tC (.int 0)))) (tVar 3) [3]) (tC (.int 0))) (tC (.int 1)))) fun r hr Y H5 v5 l5 rv => ⟨_, tg1, rfl, ?_, fun _ => ev_var rfl rv⟩
    · rw [List.map_id'] at e
      exact s_ret (k.same s1) (e.ev hfin) fun H5 v5 s5 o5 => post H5 v5 (s1.trans s5) o5
    · obtain ⟨i, hi, rfl⟩ := List.mem_map.mp hr
      rw [List.mem_range] at hi
      obtain ⟨a, ha⟩ := nz_lead (mem_nz (rowN_nz (q := q) (n := n) (k := 1 + i) (by omega) (by omega)))
      have hg := filt_head ha
      have e2 := en_lc (σ := ((wipe ((start N_first_rows [u1, u2]).set 2 (some v1)) [4]).set 4 (some v5))) (X := Y) (H := H5) (g := gName 3) (ss := [3]) (te := tVar 3) (R' := fun a : Fq q => oF a) (fun a => a) (fun a => decide (a ≠ 0)) (ei_list (K := K) (ta := tVar 4) (ev_var rfl rv)) (oL_len rv) (tt := tTest (tOp rNe (tVar 3) (tC (.int 0)))) fun b hb Y2 H6 v6 l6 rv6 => ⟨_, tg1, rfl, (et_test (ev_ne (u := .int (vl b)) (v := .int 0) (ev_var rfl rv6) ev_int rfl)).eq vl_ne0, fun _ => ev_var rfl rv6⟩
      rw [List.map_id'] at e2
      refine (et_test (ev_eq (u := .int (vl (vc (rowN q n (1 + i)) a))) (v := .int 1) (ev_ix (R := fun a : Fq q => oF a) (i := 0) (e2.ev (Nat.le_trans (List.length_filter_le _ _) (oL_len rv))) ev_nat hg) ev_int rfl)).eq ?_
      unfold headOk
      rw [hg, vl_eq1]
      rfl
/-! def still_span: slots 0=crew 1=p 2=size 3=tables 4=row 5=form -/
abbrev N_still_span : List Str := ["crew", "p", "size", "tables", "row", "form"]
theorem sc_still_span : FnScope N_still_span ["crew"] (defScope (topS 32)) := ⟨rfl, rfl, rfl, by decide +kernel, rfl, by decide +kernel, by decide +kernel⟩
structure CrB {q : Pm} (n : Nat) (tabs : List (List (List (Fq q)))) : Prop extends CrOk n tabs where
  bd : q.n ^ n ≤ 5000
theorem CrB.fr {q : Pm} {n : Nat} {tabs : List (List (List (Fq q)))} (h : CrB n tabs) : FrOk q n := ⟨h.top, h.bd⟩
def sp_still_span : L2.Sp := mkSp (ι := (q : Pm) × Nat × List (List (List (Fq q)))) (fun i X H vs => CrB i.2.1 i.2.2 ∧ a1 (oCrew i.2.1 i.2.2) X H vs) (fun i => oEx (fun o : Option (List (List (Fq i.1))) => oO (fun f => oRows f) o) (StSp i.2.1 i.2.2))
theorem ev_still_span {q : Pm} {n : Nat} {tabs : List (List (List (Fq q)))} (hp : CrB n tabs) (h1 : EvP ta σ X H (oCrew n tabs)) : EvP (tCall sp_still_span [] E0 (tCons ta tNil)) σ X H (oEx (fun o : Option (List (List (Fq q))) => oO (fun f => oRows f) o) (StSp n tabs)) :=
  ev_call (⟨q, n, tabs⟩ : (q : Pm) × Nat × List (List (List (Fq q)))) (EvA.pre hp (ea1 h1))
theorem c_still_span (c_first_rows : Ct w K mg base 2 "first_rows" sp_first_rows) (c_spin : Ct w K mg base 6 "spin" sp_spin) (T : Tp K mg) : Ct w K mg base 7 "still_span" sp_still_span := by
  refine ct_mk T (i := 32) (by decide) sc_still_span (fun _ _ _ _ _ _ us hl => match us, hl with | [_], _ => rfl) (mkSp_len fun i X H vs h => ?_) fun f cdv A outer s H vs Q E hr h => ?_
  · exact a1_len h.2
  · obtain ⟨⟨q, n, tabs⟩, X, k, ⟨ok, u1, rfl, h1⟩, post⟩ := h
    dsimp only at ok h1 post
    have nd := sc_still_span.nd
    refine ⟨_, PSs.nox (pss_cons (ps_asg (pv 0) (pg_tup (by rfl) (pgs_cons (pg_name (i := 1) nd rfl (Or.inl rfl)) (pgs_cons (pg_name (i := 2) nd rfl (Or.inl rfl)) (pgs_cons (pg_name (i := 3) nd rfl (Or.inl rfl)) pgs_nil)))))
  (pss_cons (ps_for PassesOwn.never rfl (pi_listK K (pe_ct c_first_rows hr (by decide) (by rfl) (pa_cons (pv 1) (pa_cons (pv 2) pa_nil)))) (pg_name (i := 4) nd rfl (Or.inl rfl))
    (pss_cons (ps_set (i := 5) nd rfl (.inl rfl) (pe_ct c_spin hr (by decide) (by rfl) (pa_cons (pv 0) (pa_cons (pe_lst (pa_cons (pv 4) pa_nil)) pa_nil))))
  (pss_one (ps_if (pt_cmpR op_lt (pe_callB (call_lenK K) (by rfl) (T.fr "len" (by decide)) PySem.boot_len (pa_cons (pv 5) pa_nil)) (pv 2) (nomark _))
    (pss_one (ps_ret (pv 5))) pss_nil))))
  (pss_one (ps_ret pe_non)))), ?_⟩
    refine s_unpack3 k (ev_var rfl h1) fun H1 x y z s1 hx hy hz => ?_
    have hy : y = .int (n : Int) := hy
    have py : ∀ {X H}, oN n X H y := fun {_ _} => hy
    have k1 := k.same s1
    have fr := first_fr (q := q) n
    refine s_for k1 (ei_list (ev_first_rows ok.fr (ev_var rfl hx) (ev_var rfl py))) fun H2 s2 l2 => ?_
    refine ⟨fun i σ1 H3 => (∃ z1 z2, σ1 = [some u1, some x, some y, some z, z1, z2]) ∧ Same H H3 ∧ ∀ r, r ∈ (firstM q n).take i → ∃ form, Spun n tabs [r] form ∧ n ≤ form.length, ⟨⟨none, none, rfl⟩, s1.trans s2, fun r hr => by rw [List.take_zero] at hr; simp at hr⟩, ?_, ?_⟩
    · rintro i o σ1 H3 H4 vo ho l3 ⟨⟨z1, z2, rfl⟩, sa, hall⟩ s4 hvo
      have sa4 := sa.trans s4
      have k4 := (l3.same s4).kn
      have hom := List.mem_of_getElem? ho
      have hol := fr.len o hom
      refine tg1 _ ?_
      refine s_set k4 (ev_spin ⟨ok.toCrOk, fun r hr => by rw [List.mem_singleton] at hr; rw [hr]; exact hol⟩ (ev_var rfl (rsm sa4 h1)) ((en_one (R := fun r : List (Fq q) => oRow r) (ev_var rfl hvo)).ev (by simp))) fun H5 v5 s5 ⟨form, sp, o5⟩ => ?_
      have k5 := k4.same s5
      refine s_if1 k5 (et_test (ev_I0 (ev_len (ev_var rfl o5)) (ev_var rfl py))) (fun hb H6 s6 => ?_) fun hb H6 s6 => ?_
      · refine s_ret (k5.same s6) (ev_var rfl (rsm s6 o5)) fun H7 v7 s7 o7 => post H7 v7 (sa4.trans (s5.trans (s6.trans s7))) ⟨some form, ⟨sp.lo, sp.inv, spun_pos sp (fr.nz o hom), ?_⟩, o7⟩
        have := of_decide_eq_true hb
        omega
      · refine ⟨⟨⟨_, _, rfl⟩, sa4.trans (s5.trans s6), fun r hr => ?_⟩, ((l3.same s4).same s5).same s6⟩
        rw [List.take_add_one, ho] at hr
        rcases List.mem_append.mp hr with hr | hr
        · exact hall r hr
        · have : r = o := by simpa using hr
          subst this
          have := of_decide_eq_false hb
          exact ⟨form, sp, by omega⟩
    · rintro σ1 H3 l3 ⟨⟨z1, z2, rfl⟩, sa, hall⟩
      rw [take_all] at hall
      exact s_ret l3.kn ev_c fun H5 v5 s5 o5 => post H5 v5 (sa.trans s5) ⟨none, tight_of fr hall, o5⟩
/-! def is_tight: slots 0=crew -/
abbrev N_is_tight : List Str := ["crew"]
theorem sc_is_tight : FnScope N_is_tight ["crew"] (defScope (topS 33)) := ⟨rfl, rfl, rfl, by decide +kernel, rfl, by decide +kernel, by decide +kernel⟩
def sp_is_tight : L2.Sp := mkSp (ι := (q : Pm) × Nat × List (List (List (Fq q)))) (fun i X H vs => CrB i.2.1 i.2.2 ∧ a1 (oCrew i.2.1 i.2.2) X H vs) (fun i => oEx (fun b : Bool => oB b) (fun b => b = true ↔ Tight i.2.1 i.2.2))
theorem ev_is_tight {q : Pm} {n : Nat} {tabs : List (List (List (Fq q)))} (hp : CrB n tabs) (h1 : EvP ta σ X H (oCrew n tabs)) : EvP (tCall sp_is_tight [] E0 (tCons ta tNil)) σ X H (oEx (fun b : Bool => oB b) (fun b => b = true ↔ Tight n tabs)) :=
  ev_call (⟨q, n, tabs⟩ : (q : Pm) × Nat × List (List (List (Fq q)))) (EvA.pre hp (ea1 h1))
theorem ev_isNoneEx {α : Type} {R : α → Ob} {P : Option α → Prop} (hR : ∀ x X H, ¬ R x X H .non) (h : EvP ta σ X H (oEx (fun o : Option α => oO R o) P)) : EvP (tOp (fun x y H Q => y = .non ∧ Q (.bl (decide (x = .non))) H) ta (tC .non)) σ X H (oEx (fun b : Bool => oB b) fun b => ∃ o, P o ∧ (b = true ↔ o = none)) := fun Y H1 l Q q =>
  h Y H1 l _ fun H2 v s ⟨o, hp, ov⟩ => ⟨rfl, q H2 _ s ⟨decide (v = .non), ⟨o, hp, by
    rw [decide_eq_true_eq]
    cases o with
    | none => exact ⟨fun _ => rfl, fun _ => ov⟩
    | some x => exact ⟨fun z => absurd (z ▸ ov) (hR x Y H2), fun z => nomatch z⟩⟩, rfl⟩⟩
theorem c_is_tight (c_still_span : Ct w K mg base 7 "still_span" sp_still_span) (T : Tp K mg) : Ct w K mg base 8 "is_tight" sp_is_tight := by
  refine ct_mk T (i := 33) (by decide) sc_is_tight (fun _ _ _ _ _ _ us hl => match us, hl with | [_], _ => rfl) (mkSp_len fun i X H vs h => ?_) fun f cdv A outer s H vs Q E hr h => ?_
  · exact a1_len h.2
  · obtain ⟨⟨q, n, tabs⟩, X, k, ⟨ok, u1, rfl, h1⟩, post⟩ := h
    dsimp only at ok h1 post
    have nd := sc_is_tight.nd
    refine ⟨_, PSs.nox (pss_one (ps_ret (pe_cmpR op_isN (pe_ct c_still_span hr (by decide) (by rfl) (pa_cons (pv 0) pa_nil)) pe_non (nomark _)))), ?_⟩
    refine s_ret k (ev_isNoneEx (fun x X H => oL_non x X H) (ev_still_span ok (ev_var rfl h1))) fun H5 v5 s5 ⟨b, ⟨o, hs, hb⟩, o5⟩ => post H5 v5 s5 ⟨b, hb.trans (stsp_none hs), o5⟩
end
end Still

set_option Elab.async false
set_option linter.all false
set_option maxRecDepth 100000
set_option maxHeartbeats 4000000
namespace Still
open PySem PySem.Spec PyProof.Rows L2
section
variable {w : World} {K : PySem.W.Frag} {mg : Str → Option Value} {base : Heap}
variable {σ : L2.St} {X : AX} {H : Hp} {ta tb tc td te : TE}
/-! def look_fit: slots 0=one 1=other -/
abbrev N_look_fit : List Str := ["one", "other"]
theorem sc_look_fit : FnScope N_look_fit ["one", "other"] (defScope (topS 35)) := ⟨rfl, rfl, rfl, by decide +kernel, rfl, by decide +kernel, by decide +kernel⟩
abbrev Crews (q : Pm) : Type := Nat × List (List (List (Fq q))) × Nat × List (List (List (Fq q)))
def sp_look_fit : L2.Sp := mkSp (ι := (q : Pm) × Crews q) (fun i X H vs => i.2.2.1.length = i.2.2.2.2.length ∧ a2 (oCrew i.2.1 i.2.2.1) (oCrew i.2.2.2.1 i.2.2.2.2) X H vs) (fun i => oV .non)
theorem ev_look_fit {q : Pm} {m n : Nat} {ts us : List (List (List (Fq q)))} (hl : ts.length = us.length) (h1 : EvP ta σ X H (oCrew m ts)) (h2 : EvP tb σ X H (oCrew n us)) : EvP (tCall sp_look_fit [] E0 (tCons ta (tCons tb tNil))) σ X H (oV .non) :=
  ev_call (⟨q, m, ts, n, us⟩ : (q : Pm) × Crews q) (EvA.pre hl (ea2 h1 h2))
theorem c_look_fit (T : Tp K mg) : Ct w K mg base 1 "look_fit" sp_look_fit := by
  refine ct_mk T (i := 35) (by decide) sc_look_fit (fun _ _ _ _ _ _ us hl => match us, hl with | [_, _], _ => rfl) (mkSp_len fun i X H vs h => ?_) fun f cdv A outer s H vs Q E hr h => ?_
  · exact a2_len h.2
  · obtain ⟨⟨q, m, ts, n, us⟩, X, k, ⟨hl, u1, u2, rfl, h1, h2⟩, post⟩ := h
    dsimp only at hl h1 h2 post
    have nd := sc_look_fit.nd
    refine ⟨_, PSs.nox (pss_one (ps_if (PW.pt (pw_or (pt_cmpR op_ne (pe_ix (ix_tupK K) (pv 0) pe_int (fun _ _ => rfl)) (pe_ix (ix_tupK K) (pv 1) pe_int (fun _ _ => rfl)) (nomark _)) (pw_or1 (pt_cmpR op_ne (pe_callB (call_lenK K) (by rfl) (T.fr "len" (by decide)) PySem.boot_len (pa_cons (pe_ix (ix_tupK K) (pv 0) pe_int (fun _ _ => rfl)) pa_nil)) (pe_callB (call_lenK K) (by rfl) (T.fr "len" (by decide)) PySem.boot_len (pa_cons (pe_ix (ix_tupK K) (pv 1) pe_int (fun _ _ => rfl)) pa_nil)) (nomark _)))))
    (pss_one (ps_never)) pss_nil)), ?_⟩
    refine s_if1 k (et_or (et_test (ev_ne (ev_t0 (ev_var rfl h1)) (ev_t0 (ev_var rfl h2)) rfl)) fun _ => et_test (ev_ne (ev_len (ev_t2 (ev_var rfl h1))) (ev_len (ev_t2 (ev_var rfl h2))) rfl)) (fun hb H1 s1 => ?_) fun _ H1 s1 => post H1 .non s1 rfl
    exfalso
    rw [hl] at hb
    simp at hb
/-! def asked: slots 0=one 1=other 2=mine 3=theirs 4=spot 5=high 6=wide 7=i 8=j 9=row 10=k -/
abbrev N_asked : List Str := ["one", "other", "mine", "theirs", "spot", "high", "wide", "i", "j", "row", "k"]
theorem sc_asked : FnScope N_asked ["one", "other", "mine", "theirs", "spot"] (defScope (topS 36)) := ⟨rfl, rfl, rfl, by decide +kernel, rfl, by decide +kernel, by decide +kernel⟩
abbrev AskI (q : Pm) : Type := (Crews q) × List (List (Fq q)) × List (List (Fq q)) × Nat × Nat
structure AskOk {q : Pm} (m n : Nat) (A B : List (List (Fq q))) (i j : Nat) : Prop where
  sa : Sq m A
  sb : Sq n B
  hi : i < m
  hj : j < n
  top : m * n ≤ 1296
def sp_asked : L2.Sp := mkSp (ι := (q : Pm) × AskI q) (fun i X H vs => AskOk i.2.1.1 i.2.1.2.2.1 i.2.2.1 i.2.2.2.1 i.2.2.2.2.1 i.2.2.2.2.2 ∧ a5 (oCrew i.2.1.1 i.2.1.2.1) (oCrew i.2.1.2.2.1 i.2.1.2.2.2) (oRows i.2.2.1) (oRows i.2.2.2.1) (oP (oN i.2.2.2.2.1) (oN i.2.2.2.2.2)) X H vs)
  (fun i => oRow (askM i.2.1.1 i.2.1.2.2.1 i.2.2.1 i.2.2.2.1 i.2.2.2.2.1 i.2.2.2.2.2))
theorem ev_asked {q : Pm} {m n : Nat} {ts us : List (List (List (Fq q)))} {A B : List (List (Fq q))} {i j : Nat} (ok : AskOk m n A B i j) (h1 : EvP ta σ X H (oCrew m ts)) (h2 : EvP tb σ X H (oCrew n us)) (h3 : EvP tc σ X H (oRows A)) (h4 : EvP td σ X H (oRows B)) (h5 : EvP te σ X H (oP (oN i) (oN j))) :
    EvP (tCall sp_asked [] E0 (tCons ta (tCons tb (tCons tc (tCons td (tCons te tNil)))))) σ X H (oRow (askM m n A B i j)) :=
  ev_call (⟨q, (m, ts, n, us), A, B, i, j⟩ : (q : Pm) × AskI q) (EvA.pre ok (ea5 h1 h2 h3 h4 h5))
theorem en_of {q : Pm} {n i j : Nat} {A : List (List (Fq q))} (h : Sq n A) (hi : i < n) (hj : j < n) : ∃ r, A[i]? = some r ∧ r[j]? = some (en A i j) := by
  have hl : i < A.length := by rw [h.1]; exact hi
  refine ⟨A[i], List.getElem?_eq_getElem hl, ?_⟩
  unfold en
  rw [List.getD_eq_getElem?_getD, List.getElem?_eq_getElem hl]
  exact vc_get (by show j < (A[i]).length; rw [h.2 _ (List.getElem_mem hl)]; exact hj)
theorem ev_en {q : Pm} {n i j : Nat} {A : List (List (Fq q))} (h : Sq n A) (hi : i < n) (hj : j < n) (h1 : EvP ta σ X H (oRows A)) (h2 : EvP tb σ X H (oN i)) (h3 : EvP tc σ X H (oN j)) : EvP (tOp (rIxL K) (tOp (rIxL K) ta tb) tc) σ X H (oF (en A i j)) := by
  obtain ⟨r, e1, e2⟩ := en_of h hi hj
  exact ev_ix (R := fun a : Fq q => oF a) (ev_ix (R := fun r : List (Fq q) => oRow r) h1 h2 e1) h3 e2
/-- two names at once -/
theorem s_par {A B : Ob} [Rep A] {i j : Nat} {u : TS} {D : Ends} (k : Kn X H) (h1 : EvP ta σ X H A) (h2 : EvP tb σ X H B) (next : ∀ H1 x y, Same H H1 → A X H1 x → B X H1 y → u D ((σ.set i (some x)).set j (some y)) H1) : tSeq (tPar i j (tCons ta (tCons tb tNil))) u D σ H :=
  (ea2 h1 h2) X H (Lt.refl k) (fun vs H1 => ∃ v w, vs = [v, w] ∧ u D ((σ.set i (some v)).set j (some w)) H1) fun H1 vs s ⟨x, y, e, hx, hy⟩ => ⟨x, y, e, next H1 x y s hx hy⟩
theorem ev_add {a b : Nat} (h1 : EvP ta σ X H (oN a)) (h2 : EvP tb σ X H (oN b)) : EvP (tOp (rI0 fun i j => .int (i + j)) ta tb) σ X H (oN (a + b)) := (ev_I0 h1 h2).eq (by show oV (V.int _) = oV (V.int ((a + b : Nat) : Int)); rw [Int.natCast_add])
theorem ev_mulN {a b : Nat} (h1 : EvP ta σ X H (oN a)) (h2 : EvP tb σ X H (oN b)) (h : b < 2 ^ 62) : EvP (tOp (rI CMul fun i j => .int (i * j)) ta tb) σ X H (oN (a * b)) := (ev_mulR h1 h2 (by omega)).eq (by show oV (V.int _) = oV (V.int ((a * b : Nat) : Int)); rw [Int.natCast_mul])
theorem fmap_set {q : Pm} {N : Nat} {f : Vc (Fq q)} {a : Fq q} {x : Nat} : ((lst N f).map fun a : Fq q => V.int (vl a)).set x (.int (vl a)) = ((lst N f).set x a).map fun a : Fq q => V.int (vl a) := by rw [List.map_set]
theorem c_asked (T : Tp K mg) : Ct w K mg base 1 "asked" sp_asked := by
  refine ct_mk T (i := 36) (by decide) sc_asked (fun _ _ _ _ _ _ us hl => match us, hl with | [_, _, _, _, _], _ => rfl) (mkSp_len fun i X H vs h => ?_) fun f cdv A outer s H vs Q E hr h => ?_
  · exact a5_len h.2
  · obtain ⟨⟨q, ⟨m, ts, n, us⟩, A, B, i, j⟩, X, k, ⟨⟨sa, sb, hi, hj, htop⟩, u1, u2, u3, u4, u5, rfl, h1, h2, h3, h4, h5⟩, post⟩ := h
    dsimp only at sa sb hi hj htop h1 h2 h3 h4 h5 post
    have nd := sc_asked.nd
    refine ⟨_, PSs.nox (pss_cons (ps_par (i := 5) (j := 6) (by rfl) nd rfl rfl (by decide) rfl rfl (pa_cons (pe_ix (ix_tupK K) (pv 0) pe_int (fun _ _ => rfl)) (pa_cons (pe_ix (ix_tupK K) (pv 1) pe_int (fun _ _ => rfl)) pa_nil)) (by rfl))
  (pss_cons (ps_asg (pv 4) (pg_tup (by rfl) (pgs_cons (pg_name (i := 7) nd rfl (Or.inl rfl)) (pgs_cons (pg_name (i := 8) nd rfl (Or.inl rfl)) pgs_nil))))
  (pss_cons (ps_set (i := 9) nd rfl (.inl rfl) (pe_op op_rep (pe_lst (pa_cons pe_int pa_nil)) (pe_op op_mul (pv 5) (pv 6))))
  (pss_cons (ps_for PassesOwn.never rfl (pi_range1 (by rfl) (T.fr "range" (by decide)) (pa_cons (pv 5) pa_nil)) (pg_name (i := 10) nd rfl (Or.inl rfl))
    (pss_one (ps_asg (pe_ix (ix_listK K) (pe_ix (ix_listK K) (pv 2) (pv 7) (fun _ _ => rfl)) (pv 10) (fun _ _ => rfl)) (pg_sub (pv 9) (pe_op op_add (pe_op op_mul (pv 10) (pv 6)) (pv 8)) set_list))))
  (pss_cons (ps_for PassesOwn.never rfl (pi_range1 (by rfl) (T.fr "range" (by decide)) (pa_cons (pv 6) pa_nil)) (pg_name (i := 10) nd rfl (Or.inl rfl))
    (pss_one (ps_asg (pe_op op_modN (pe_op op_sub (pe_ix (ix_listK K) (pv 9) (pe_op op_add (pe_op op_mul (pv 7) (pv 6)) (pv 10)) (fun _ _ => rfl)) (pe_ix (ix_listK K) (pe_ix (ix_listK K) (pv 3) (pv 10) (fun _ _ => rfl)) (pv 8) (fun _ _ => rfl))) (pe_ix (ix_tupK K) (pv 0) pe_int (fun _ _ => rfl))) (pg_sub (pv 9) (pe_op op_add (pe_op op_mul (pv 7) (pv 6)) (pv 10)) set_list))))
  (pss_one (ps_ret (pv 9)))))))), ?_⟩
    have hm : m ≤ 1296 := Nat.le_trans (Nat.le_mul_of_pos_right m (by omega)) htop
    have hn : n ≤ 1296 := Nat.le_trans (Nat.le_mul_of_pos_left n (by omega)) htop
    refine s_par k (ev_t1 (ev_var rfl h1)) (ev_t1 (ev_var rfl h2)) fun H1 x y s1 hx hy => ?_
    have hx : x = .int (m : Int) := hx
    have hy : y = .int (n : Int) := hy
    have px : ∀ {X H}, oN m X H x := fun {_ _} => hx
    have py : ∀ {X H}, oN n X H y := fun {_ _} => hy
    have k1 := k.same s1
    refine s_unpack2 k1 (ev_var rfl (rsm s1 h5)) fun H2 a b s2 ha hb => ?_
    have ha : a = .int (i : Int) := ha
    have hb : b = .int (j : Int) := hb
    have pa : ∀ {X H}, oN i X H a := fun {_ _} => ha
    have pb : ∀ {X H}, oN j X H b := fun {_ _} => hb
    have k2 := k1.same s2
    have s02 := s1.trans s2
    refine s_new k2 (en_rep (R := fun a : Fq q => oF a) (x := 0) (n := m * n) ((en_one (R := fun a : Fq q => oF a) (ev_int.eq vl_0)).ev (by simp)) (ev_mulN (ev_var rfl px) (ev_var rfl py) (by omega)) (by omega)) fun H3 l vs s3 nl ell it3 l3 => ?_
    have hl0 : H l = none := s02.free nl
    have e0 : vs = (lst (m * n) (askA n A i j 0)).map fun a : Fq q => V.int (vl a) := by
      rw [← askA_zero n A i j]
      exact it3.flat (f := fun a : Fq q => V.int (vl a))
    subst e0
    have h33 := up l3 (rsm s02 h3)
    have h43 := up l3 (rsm s02 h4)
    have h13 := up l3 (rsm s02 h1)
    refine s_for l3.kn (ei_range (ev_var rfl px) (by omega)) fun H4 s4 l4 => ?_
    refine ⟨fun c σ1 H5 => (∃ z, σ1 = [some u1, some u2, some u3, some u4, some u5, some x, some y, some a, some b, some (.ref l), z]) ∧ H5 l = some (.lst ((lst (m * n) (askA n A i j c)).map fun a : Fq q => V.int (vl a))) ∧ Same H H5, ⟨⟨none, rfl⟩, s4 _ _ ell, (s02.trans s3).trans s4⟩, ?_, ?_⟩
    · rintro c o σ1 H5 H6 vo ho l5 ⟨⟨z, rfl⟩, ea, sc⟩ s6 hvo
      have l6 := l5.same s6
      obtain ⟨hc1, hc2⟩ := List.getElem?_eq_some_iff.mp ho
      rw [List.getElem_range] at hc2
      rw [List.length_range] at hc1
      subst hc2
      have lk := l4.trans l6
      refine tg1 _ ?_
      refine s_put (j := c * n + j) (O := oF (en A i c)) l6.kn rfl (s6 _ _ ea) (by rw [List.length_map, lst_len]; exact cell_lt hc1 hj) (ev_en sa hi hc1 (ev_var rfl (up lk h33)) (ev_var rfl pa) (ev_var rfl hvo)) (ev_add (ev_mulN (ev_var rfl hvo) (ev_var rfl py) (by omega)) (ev_var rfl pb)) fun H7 v7 s7 o7 => ?_
      have e7 : v7 = .int (vl (en A i c)) := o7
      subst e7
      refine ⟨⟨⟨_, rfl⟩, ?_, same_write ((sc.trans s6).trans s7) hl0⟩, (l6.same s7).write (.inr rfl)⟩
      rw [upd_same, fmap_set, askA_step hc1 hj]
    · rintro σ1 H5 l5 ⟨⟨z, rfl⟩, ea, sc⟩
      rw [List.length_range, askB_zero] at ea
      refine s_for l5.kn (ei_range (ev_var rfl py) (by omega)) fun H6 s6 l6 => ?_
      have lk5 := (l4.trans l5).trans l6
      refine ⟨fun c σ1 H7 => (∃ z, σ1 = [some u1, some u2, some u3, some u4, some u5, some x, some y, some a, some b, some (.ref l), z]) ∧ H7 l = some (.lst ((lst (m * n) (askB n A B m i j c)).map fun a : Fq q => V.int (vl a))) ∧ Same H H7, ⟨⟨_, rfl⟩, s6 _ _ ea, sc.trans s6⟩, ?_, ?_⟩
      · rintro c o σ1 H7 H8 vo ho l7 ⟨⟨z, rfl⟩, eb, sd⟩ s8 hvo
        have l8 := l7.same s8
        obtain ⟨hc1, hc2⟩ := List.getElem?_eq_some_iff.mp ho
        rw [List.getElem_range] at hc2
        rw [List.length_range] at hc1
        subst hc2
        have lk := lk5.trans l8
        have e8 := s8 _ _ eb
        refine tg1 _ ?_
        have hcell := cell_lt hi hc1
        have k8 : Kn X H8 := kn_wk l8.kn hid_wk
        have or8 : oRow (lst (m * n) (askB n A B m i j c)) X H8 (.ref l) := oL.mk (notKn k2 nl) e8 Its.of_flat (by rw [lst_len]; omega)
        have h48 : oRows B X H8 u4 := dn hid_wk (up lk h43)
        have h18 : oCrew m ts X H8 u1 := dn hid_wk (up lk h13)
        refine s_put (X := X) (j := i * n + c) (O := oF (askB n A B m i j c (i * n + c) - en B c j)) k8 rfl e8 (by rw [List.length_map, lst_len]; exact hcell)
          (ev_modF (i := vl (askB n A B m i j c (i * n + c)) - vl (en B c j)) (ev_I0 (ev_ix (R := fun a : Fq q => oF a) (i := i * n + c) (ev_var rfl or8) (ev_add (ev_mulN (ev_var rfl pa) (ev_var rfl py) (by omega)) (ev_var rfl (dn hid_wk hvo))) (lst_get hcell)) (ev_en sb hc1 hj (ev_var rfl h48) (ev_var rfl (dn hid_wk hvo)) (ev_var rfl pb))) (ev_t0 (ev_var rfl h18)) (by rw [vl_sub]))
          (ev_add (ev_mulN (ev_var rfl pa) (ev_var rfl py) (by omega)) (ev_var rfl (dn hid_wk hvo))) fun H9 v9 s9 o9 => ?_
        have e9 : v9 = .int (vl (askB n A B m i j c (i * n + c) - en B c j)) := o9
        subst e9
        refine ⟨⟨⟨_, rfl⟩, ?_, same_write ((sd.trans s8).trans s9) hl0⟩, (l8.same s9).write (.inr rfl)⟩
        rw [upd_same, fmap_set, askB_step hi hc1]
      · rintro σ1 H7 l7 ⟨⟨z, rfl⟩, eb, sd⟩
        rw [List.length_range] at eb
        have or : oRow (askM m n A B i j) X H7 (.ref l) := oL.mk (notKn k2 nl) eb Its.of_flat (by rw [ask_len]; omega)
        exact s_ret (kn_wk l7.kn hid_wk) (ev_var rfl or) fun H9 v9 s9 o9 => post H9 v9 (sd.trans s9) o9
/-! def asked_rows: slots 0=one 1=other 2=found 3=mine 4=theirs 5=i 6=j -/
abbrev N_asked_rows : List Str := ["one", "other", "found", "mine", "theirs", "i", "j"]
theorem sc_asked_rows : FnScope N_asked_rows ["one", "other"] (defScope (topS 37)) := ⟨rfl, rfl, rfl, by decide +kernel, rfl, by decide +kernel, by decide +kernel⟩
structure CrA {q : Pm} (n : Nat) (tabs : List (List (List (Fq q)))) : Prop extends CrB n tabs where
  six : n ≤ 6
  few : tabs.length ≤ 4
structure FitOk {q : Pm} (m : Nat) (ts : List (List (List (Fq q)))) (n : Nat) (us : List (List (List (Fq q)))) : Prop where
  a : CrA m ts
  b : CrA n us
  eq : ts.length = us.length
def sp_asked_rows : L2.Sp := mkSp (ι := (q : Pm) × Crews q) (fun i X H vs => FitOk i.2.1 i.2.2.1 i.2.2.2.1 i.2.2.2.2 ∧ a2 (oCrew i.2.1 i.2.2.1) (oCrew i.2.2.2.1 i.2.2.2.2) X H vs) (fun i => oRows (askedM i.2.1 i.2.2.2.1 i.2.2.1 i.2.2.2.2))
theorem ev_asked_rows {q : Pm} {m n : Nat} {ts us : List (List (List (Fq q)))} (ok : FitOk m ts n us) (h1 : EvP ta σ X H (oCrew m ts)) (h2 : EvP tb σ X H (oCrew n us)) : EvP (tCall sp_asked_rows [] E0 (tCons ta (tCons tb tNil))) σ X H (oRows (askedM m n ts us)) :=
  ev_call (⟨q, m, ts, n, us⟩ : (q : Pm) × Crews q) (EvA.pre ok (ea2 h1 h2))
def ask2 {q : Pm} (m n : Nat) (p : List (List (Fq q)) × List (List (Fq q))) : List (List (Fq q)) := (List.range m).flatMap fun i => (List.range n).map fun j => askM m n p.1 p.2 i j
theorem ask2_len {q : Pm} (m n c : Nat) (p : List (List (Fq q)) × List (List (Fq q))) : ((List.range c).flatMap fun i => (List.range n).map fun j => askM m n p.1 p.2 i j).length = c * n := by
  induction c with
  | zero => simp
  | succ c ih => rw [List.range_succ, List.flatMap_append, List.length_append, ih]; simp [Nat.add_mul]
theorem asked_len2 {q : Pm} (m n : Nat) (ps : List (List (List (Fq q)) × List (List (Fq q)))) : (ps.flatMap (ask2 m n)).length = ps.length * (m * n) := by
  induction ps with
  | nil => simp
  | cons p ps ih => rw [List.flatMap_cons, List.length_append, ih]; unfold ask2; rw [ask2_len, List.length_cons, Nat.add_mul]; omega
theorem take_flat {α β : Type} {f : α → List β} {xs : List α} {i : Nat} {x : α} (h : xs[i]? = some x) : (xs.take (i + 1)).flatMap f = (xs.take i).flatMap f ++ f x := by
  rw [List.take_add_one, h, List.flatMap_append]; simp
theorem take_mapS {α β : Type} {f : α → β} {xs : List α} {i : Nat} {x : α} (h : xs[i]? = some x) : (xs.take (i + 1)).map f = (xs.take i).map f ++ [f x] := by
  rw [List.take_add_one, h, List.map_append]; rfl
theorem c_asked_rows (c_asked : Ct w K mg base 1 "asked" sp_asked) (T : Tp K mg) : Ct w K mg base 2 "asked_rows" sp_asked_rows := by
  refine ct_mk T (i := 37) (by decide) sc_asked_rows (fun _ _ _ _ _ _ us hl => match us, hl with | [_, _], _ => rfl) (mkSp_len fun i X H vs h => ?_) fun f cdv A outer s H vs Q E hr h => ?_
  · exact a2_len h.2
  · obtain ⟨⟨q, m, ts, n, us⟩, X, k, ⟨⟨oa, ob, el0⟩, u1, u2, rfl, h1, h2⟩, post⟩ := h
    dsimp only at oa ob el0 h1 h2 post
    have nd := sc_asked_rows.nd
    refine ⟨_, PSs.nox (pss_cons (ps_set (i := 2) nd rfl (.inl rfl) (pe_lst pa_nil))
  (pss_cons (ps_for PassesOwn.never rfl (pi_zipK K (by rfl) (T.fr "zip" (by decide)) (pa_cons (pe_ix (ix_tupK K) (pv 0) pe_int (fun _ _ => rfl)) (pa_cons (pe_ix (ix_tupK K) (pv 1) pe_int (fun _ _ => rfl)) pa_nil))) (pg_tup (by rfl) (pgs_cons (pg_name (i := 3) nd rfl (Or.inl rfl)) (pgs_cons (pg_name (i := 4) nd rfl (Or.inl rfl)) pgs_nil)))
    (pss_one (ps_for PassesOwn.never rfl (pi_range1 (by rfl) (T.fr "range" (by decide)) (pa_cons (pe_ix (ix_tupK K) (pv 0) pe_int (fun _ _ => rfl)) pa_nil)) (pg_name (i := 5) nd rfl (Or.inl rfl))
    (pss_one (ps_for PassesOwn.never rfl (pi_range1 (by rfl) (T.fr "range" (by decide)) (pa_cons (pe_ix (ix_tupK K) (pv 1) pe_int (fun _ _ => rfl)) pa_nil)) (pg_name (i := 6) nd rfl (Or.inl rfl))
    (pss_one (ps_expr (pe_bm PySem.F.plainAttrs_list PySem.F.slot_list_append PySem.F.type_list_append mt_append (pv 2) (pa_cons (pe_ct c_asked hr (by decide) (by rfl) (pa_cons (pv 0) (pa_cons (pv 1) (pa_cons (pv 3) (pa_cons (pv 4) (pa_cons (pe_tup (pa_cons (pv 5) (pa_cons (pv 6) pa_nil))) pa_nil)))))) pa_nil)))))))))
  (pss_one (ps_ret (pv 2))))), ?_⟩
    have hm := oa.six
    have hn := ob.six
    have hmn : m * n ≤ 36 := Nat.mul_le_mul hm hn
    have hzl : (ts.zip us).length ≤ 4 := by rw [List.length_zip]; have := oa.few; omega
    refine s_new k (en_nil (R := fun r : List (Fq q) => oRow r)) fun H2 l vs s2 nl ell it2 l2 => ?_
    have hv0 : vs = [] := List.length_eq_zero_iff.mp it2.1
    subst hv0
    have h12 := up l2 h1
    have h22 := up l2 h2
    have bnd : ∀ a b c, a < 4 → b ≤ 36 → c ≤ 6 → a * (m * n) + b + c ≤ 5000 := fun a b c ha hb hc => by
      have : a * (m * n) ≤ 4 * 36 := Nat.mul_le_mul (by omega) hmn
      omega
    refine s_for l2.kn (ei_zip (ev_t2 (ev_var rfl h12)) (ev_t2 (ev_var rfl h22)) el0) fun H3 s3 l3 => ?_
    refine ⟨fun i σ1 H4 => (∃ y3 y4 y5 y6, σ1 = [some u1, some u2, some (.ref l), y3, y4, y5, y6]) ∧ (∃ acc, H4 l = some (.lst acc) ∧ Its (fun r : List (Fq q) => oRow r) (hid X l) H4 acc (((ts.zip us).take i).flatMap (ask2 m n))) ∧ Same H H4, ⟨⟨none, none, none, none, rfl⟩, ⟨[], s3 _ _ ell, by rw [List.take_zero]; exact Its.nil⟩, s2.trans s3⟩, ?_, ?_⟩
    · rintro i p σ1 H4 H5 vp hp l4 ⟨⟨y3, y4, y5, y6, rfl⟩, ⟨acc, ea, ia⟩, sa⟩ s5 hvp
      have l5 := l4.same s5
      have hi4 : i < 4 := by have := (List.getElem?_eq_some_iff.mp hp).1; omega
      obtain ⟨a, b, hva, hvb, tg⟩ := tg2 (K := K) (i := 3) (j := 4) (σ := [some u1, some u2, some (.ref l), y3, y4, y5, y6]) hvp
      have hpm := hp
      rw [List.getElem?_zip_eq_some] at hpm
      have sqa := oa.sq _ (List.mem_of_getElem? hpm.1)
      have sqb := ob.sq _ (List.mem_of_getElem? hpm.2)
      have lk5 := l3.trans l5
      refine tg _ ?_
      refine s_for1 l5.kn (ei_range (ev_t1 (ev_var rfl (up lk5 h12))) (by omega)) fun H6 s6 l6 => ?_
      refine ⟨fun c σ2 H7 => (∃ y5 y6, σ2 = [some u1, some u2, some (.ref l), some a, some b, y5, y6]) ∧ (∃ acc, H7 l = some (.lst acc) ∧ Its (fun r : List (Fq q) => oRow r) (hid X l) H7 acc (((ts.zip us).take i).flatMap (ask2 m n) ++ ((List.range m).take c).flatMap fun i => (List.range n).map fun j => askM m n p.1 p.2 i j)) ∧ Same H H7,
        ⟨⟨_, _, rfl⟩, ⟨acc, s6 _ _ (s5 _ _ ea), by rw [List.take_zero, List.flatMap_nil, List.append_nil]; exact (ia.sm s5).sm s6⟩, (sa.trans s5).trans s6⟩, ?_, ?_⟩
      · rintro c o σ2 H7 H8 vo ho l7 ⟨⟨y5, y6, rfl⟩, ⟨acc, ea, ia⟩, sb⟩ s8 hvo
        have l8 := l7.same s8
        obtain ⟨hc1, hc2⟩ := List.getElem?_eq_some_iff.mp ho
        rw [List.getElem_range] at hc2
        rw [List.length_range] at hc1
        subst hc2
        have lk8 := (l6.trans l8)
        refine tg1 _ ?_
        refine s_for1 l8.kn (ei_range (ev_t1 (ev_var rfl (up (lk5.trans lk8) h22))) (by omega)) fun H9 s9 l9 => ?_
        refine ⟨fun d σ3 H10 => (∃ y6, σ3 = [some u1, some u2, some (.ref l), some a, some b, some vo, y6]) ∧ (∃ acc, H10 l = some (.lst acc) ∧ Its (fun r : List (Fq q) => oRow r) (hid X l) H10 acc ((((ts.zip us).take i).flatMap (ask2 m n) ++ ((List.range m).take c).flatMap fun i => (List.range n).map fun j => askM m n p.1 p.2 i j) ++ ((List.range n).take d).map fun j => askM m n p.1 p.2 c j)) ∧ Same H H10,
          ⟨⟨_, rfl⟩, ⟨acc, s9 _ _ (s8 _ _ ea), by rw [List.take_zero, List.map_nil, List.append_nil]; exact (ia.sm s8).sm s9⟩, (sb.trans s8).trans s9⟩, ?_, ?_⟩
        · rintro d o σ3 H10 H11 vd hd l10 ⟨⟨y6, rfl⟩, ⟨acc, ea, ia⟩, sc⟩ s11 hvd
          have l11 := l10.same s11
          obtain ⟨hd1, hd2⟩ := List.getElem?_eq_some_iff.mp hd
          rw [List.getElem_range] at hd2
          rw [List.length_range] at hd1
          subst hd2
          have lk11 := lk8.trans (l9.trans l11)
          refine tg1 _ ?_
          have hlen : acc.length < 5000 := by
            have e1 := ia.1
            have e2 : (((ts.zip us).take i).flatMap (ask2 m n)).length = ((ts.zip us).take i).length * (m * n) := asked_len2 m n _
            have e3 : (((List.range m).take c).flatMap fun i => (List.range n).map fun j => askM m n p.1 p.2 i j).length = c * n := by
              rw [show (List.range m).take c = List.range c by rw [List.take_range, Nat.min_eq_left (by omega)]]
              exact ask2_len m n c p
            rw [List.length_append, List.length_append, e2, e3, List.length_map, List.length_take, List.length_take, List.length_range] at e1
            have e4 : c * n ≤ 36 := Nat.le_trans (Nat.mul_le_mul (show c ≤ 6 by omega) hn) (by decide)
            have := bnd (min i (ts.zip us).length) (c * n) (min d n) (by omega) e4 (by omega)
            have : min i (ts.zip us).length * (m * n) ≤ 4 * 36 := Nat.mul_le_mul (by omega) hmn
            omega
          refine s_append l11.kn rfl (s11 _ _ ea) hlen (ev_asked ⟨sqa, sqb, hc1, hd1, by omega⟩ (ev_var rfl (up (lk5.trans lk11) h12)) (ev_var rfl (up (lk5.trans lk11) h22)) (ev_var rfl (up lk11 hva)) (ev_var rfl (up lk11 hvb)) (ev_tup2 (ev_var rfl (up (l9.trans l11) hvo)) (ev_var rfl hvd))) fun H12 v12 s12 o12 => ?_
          have lw : Lt (hid X l) H12 (hid X l) (upd H12 l (.lst (acc ++ [v12]))) := (Lt.refl (l11.kn.same s12)).write (.inr rfl)
          refine ⟨⟨⟨_, rfl⟩, ⟨_, upd_same, ?_⟩, same_write ((sc.trans s11).trans s12) nl⟩, (l11.same s12).trans lw⟩
          rw [take_mapS hd, ← List.append_assoc]
          exact (((ia.sm s11).sm s12).up lw).snoc (up lw o12)
        · rintro σ3 H10 l10 ⟨⟨y6, rfl⟩, ⟨acc, ea, ia⟩, sc⟩
          rw [take_all] at ia
          refine ⟨⟨⟨_, _, rfl⟩, ⟨acc, ea, ?_⟩, sc⟩, l8.trans (l9.trans l10)⟩
          rw [take_flat ho, ← List.append_assoc]
          exact ia
      · rintro σ2 H7 l7 ⟨⟨y5, y6, rfl⟩, ⟨acc, ea, ia⟩, sb⟩
        rw [take_all] at ia
        refine ⟨⟨⟨_, _, _, _, rfl⟩, ⟨acc, ea, ?_⟩, sb⟩, l5.trans (l6.trans l7)⟩
        rw [take_flat hp]
        exact ia
    · rintro σ1 H4 l4 ⟨⟨y3, y4, y5, y6, rfl⟩, ⟨acc, ea, ia⟩, sa⟩
      rw [take_all] at ia
      have hlen : (askedM m n ts us).length ≤ 5000 := by
        have e2 : (askedM m n ts us).length = (ts.zip us).length * (m * n) := asked_len2 m n _
        have : (ts.zip us).length * (m * n) ≤ 4 * 36 := Nat.mul_le_mul hzl hmn
        omega
      have or : oRows (askedM m n ts us) X H4 (.ref l) := oL.mk (notKn k nl) ea (ia.dn hid_wk) hlen
      exact s_ret (kn_wk l4.kn hid_wk) (ev_var rfl or) fun H5 v5 s5 o5 => post H5 v5 (sa.trans s5) o5
end
end Still

set_option Elab.async false
set_option linter.all false
set_option maxRecDepth 100000
set_option maxHeartbeats 4000000
namespace Still
open PySem PySem.Spec PyProof.Rows L2
section
variable {w : World} {K : PySem.W.Frag} {mg : Str → Option Value} {base : Heap}
variable {σ : L2.St} {X : AX} {H : Hp} {ta tb tc td te : TE}
/-! slices -/
def EvO (to : TO) (σ : L2.St) (X : AX) (H : Hp) (o : Option Int) : Prop := ∀ Y H1, Lt X H Y H1 → ∀ Q : Option Int → Hp → Prop, (∀ H2, Same H1 H2 → Q o H2) → to σ H1 Q
theorem eo_none : EvO tNoPart σ X H none := fun Y H1 l Q q => q H1 (Same.refl _)
theorem eo_some {i : Int} (h : EvP ta σ X H (oI i)) : EvO (tPart ta) σ X H (some i) := fun Y H1 l Q q => h Y H1 l _ fun H2 v s o => ⟨i, o, q H2 s⟩
def cutL {α : Type} (xs : List α) (lo hi : Option Int) : List α := (xs.drop (HT.sIx xs.length 0 lo)).take (HT.sIx xs.length xs.length hi - HT.sIx xs.length 0 lo)
theorem cutL_le {α : Type} (xs : List α) (lo hi : Option Int) : (cutL xs lo hi).length ≤ xs.length := by
  unfold cutL
  rw [List.length_take, List.length_drop]
  omega
theorem Its.cut {α : Type} {R : α → Ob} {vs : List V} {xs : List α} (h : Its R X H vs xs) (lo hi : Option Int) : Its R X H (cutV vs lo hi) (cutL xs lo hi) := by
  refine ⟨?_, fun i u x e1 e2 => ?_⟩
  · unfold cutV cutL
    rw [List.length_take, List.length_take, List.length_drop, List.length_drop, h.1]
  · unfold cutV at e1
    unfold cutL at e2
    rw [h.1] at e1
    rw [List.getElem?_take] at e1 e2
    split at e1
    · rename_i hlt
      rw [if_pos hlt] at e2
      rw [List.getElem?_drop] at e1 e2
      exact h.2 _ u x e1 e2
    · cases e1
theorem en_slice {α : Type} {R : α → Ob} {xs : List α} {lo hi : Option Int} {tl th : TO} [∀ x, Rep (R x)] (h : EvP te σ X H (oL R xs)) (hl : EvO tl σ X H lo) (hh : EvO th σ X H hi) : EvN (tSl (rSlL K) te tl th) σ X H R (cutL xs lo hi) := fun Y H1 l Q q =>
  h Y H1 l _ fun H2 v s o => hl Y H2 (l.same s) _ fun H3 s2 => hh Y H3 ((l.same s).same s2) _ fun H4 s3 => by
    obtain ⟨a, vs, rfl, n, e, i, b⟩ := (rsm (s2.trans s3) o).its
    exact ⟨a, vs, rfl, .inl (.inl e), fun p np => q _ p _ (((s.trans s2).trans s3).trans (same_new np)) (((s.trans s2).trans s3).free np) upd_same ((i.cut lo hi).new (((l.kn.same s).same s2).same s3) np)⟩
theorem cut_tail {α : Type} (xs : List α) : cutL xs (some 1) none = xs.drop 1 := by
  unfold cutL
  rw [show HT.sIx xs.length 0 (some 1) = min 1 xs.length from HT.sIx_nat xs.length 0 1, HT.sIx_none]
  cases xs with
  | nil => rfl
  | cons x r =>
    rw [List.length_cons, show min 1 (r.length + 1) = 1 by omega]
    show r.take _ = r
    rw [Nat.add_sub_cancel, List.take_length]
theorem cut_last {α : Type} (xs : List α) : cutL xs none (some (-1)) = xs.dropLast := by
  unfold cutL
  rw [HT.sIx_none, List.drop_zero, Nat.sub_zero, List.dropLast_eq_take]
  congr 1
  show (if (-1 : Int) < 0 then ((-1 : Int) + (xs.length : Int)).toNat else min (-1 : Int).toNat xs.length) = _
  rw [if_pos (by decide)]
  omega
theorem src_rangeC {lo c : Int} {n : Nat} : Src (Itc lo c n) X H (fun k : Nat => oV (.int (lo + (k : Int) * c))) (List.range n) := by
  refine ⟨fun i Y H1 l hi => ?_, fun Y H1 l => ?_, fun i x Y H1 v H2 l hx y => ?_⟩
  · rw [List.length_range] at hi
    exact hi
  · rw [List.length_range]
    exact Nat.le_refl _
  · obtain ⟨rfl, rfl⟩ := y
    obtain ⟨h1, h2⟩ := List.getElem?_eq_some_iff.mp hx
    rw [List.getElem_range] at h2
    subst h2
    exact ⟨Same.refl _, rfl⟩
theorem rg_ok {a c : Nat} (ha : a ≤ 5000) (hc : 0 < c) (hc2 : c ≤ 5000) : ∃ n : Nat, n ≤ a ∧ RgC 0 (a : Int) (c : Int) n := by
  have h1 := PyProof.Rows.rangeSize_toNat 0 (a : Int) (c : Int)
  have h2 := PyProof.Rows.rangeSize_toNat_le 0 (a : Int) (c : Int)
  refine ⟨(Builtin.Range.rangeSize 0 (a : Int) (c : Int)).toNat, by omega, by omega, by omega, ?_, h1⟩
  unfold Builtin.Range.small
  generalize Builtin.Range.rangeSize 0 (a : Int) (c : Int) = z at h1 h2 ⊢
  simp only [Builtin.Range.rangeFitsLong, Bool.and_eq_true, Bool.or_eq_true, decide_eq_true_eq, beq_iff_eq]
  refine ⟨⟨⟨⟨?_, ?_⟩, ?_⟩, ?_⟩, ?_⟩ <;> first | omega | (split <;> simp <;> omega) | (simp; omega)
theorem ei_range3 {a c : Nat} (h1 : EvP ta σ X H (oN a)) (h2 : EvP tb σ X H (oN c)) (ha : a ≤ 5000) (hc : 0 < c) (hc2 : c ≤ 5000) : ∃ n : Nat, n ≤ a ∧ EvI (iRng3 (tCons (tC (.int 0)) (tCons ta (tCons tb tNil)))) σ X H (fun k : Nat => oN (k * c)) (List.range n) := by
  obtain ⟨n, hn, hr⟩ := rg_ok ha hc hc2
  refine ⟨n, hn, fun Y H1 l Q q => h1 Y H1 l _ fun H2 v s o => h2 Y H2 (l.same s) _ fun H3 u s2 o2 => ?_⟩
  have e : v = .int (a : Int) := o
  have e2 : u = .int (c : Int) := o2
  subst e e2
  refine ⟨0, a, c, n, rfl, hr, ?_⟩
  have z := src_rangeC (X := Y) (H := H3) (lo := 0) (c := (c : Int)) (n := n)
  refine q _ H3 (s.trans s2) ⟨z.go, z.stop, fun i x Z H3 v H4 k hx y => ?_⟩
  obtain ⟨s2, e2⟩ := z.yld i x Z H3 v H4 k hx y
  refine ⟨s2, ?_⟩
  have e3 : v = .int (0 + (x : Int) * (c : Int)) := e2
  rw [e3]
  show V.int _ = V.int _
  rw [Int.zero_add, Int.natCast_mul]
/-! def as_tables: slots 0=rows 1=wide 2=at 3=row -/
abbrev N_as_tables : List Str := ["rows", "wide", "at", "row"]
theorem sc_as_tables : FnScope N_as_tables ["rows", "wide"] (defScope (topS 38)) := ⟨rfl, rfl, rfl, by decide +kernel, rfl, by decide +kernel, by decide +kernel⟩
structure AsOk {q : Pm} (rows : List (List (Fq q))) (n : Nat) : Prop where
  pos : 0 < n
  top : n ≤ 5000
def sp_as_tables : L2.Sp := mkSp (ι := (q : Pm) × List (List (Fq q)) × Nat) (fun i X H vs => AsOk i.2.1 i.2.2 ∧ a2 (oRows i.2.1) (oN i.2.2) X H vs) (fun i => oEx (fun t : List (List (List (Fq i.1))) => oTabs t) (fun t => t.length = i.2.1.length))
theorem ev_as_tables {q : Pm} {n : Nat} {rows : List (List (Fq q))} (ok : AsOk rows n) (h1 : EvP ta σ X H (oRows rows)) (h2 : EvP tb σ X H (oN n)) : EvP (tCall sp_as_tables [] E0 (tCons ta (tCons tb tNil))) σ X H (oEx (fun t : List (List (List (Fq q))) => oTabs t) (fun t => t.length = rows.length)) :=
  ev_call (⟨q, rows, n⟩ : (q : Pm) × List (List (Fq q)) × Nat) (EvA.pre ok (ea2 h1 h2))
def cntR (a c : Nat) : Nat := (Builtin.Range.rangeSize 0 (a : Int) (c : Int)).toNat
theorem ei_range3' {a c : Nat} (h1 : EvP ta σ X H (oN a)) (h2 : EvP tb σ X H (oN c)) (ha : a ≤ 5000) (hc : 0 < c) (hc2 : c ≤ 5000) : EvI (iRng3 (tCons (tC (.int 0)) (tCons ta (tCons tb tNil)))) σ X H (fun k : Nat => oN (k * c)) (List.range (cntR a c)) := by
  obtain ⟨n, hn, hr⟩ := rg_ok ha hc hc2
  have en : cntR a c = n := by
    unfold cntR
    rw [hr.2.2.2, Int.toNat_natCast]
  rw [en]
  refine fun Y H1 l Q q => h1 Y H1 l _ fun H2 v s o => h2 Y H2 (l.same s) _ fun H3 u s2 o2 => ?_
  have e : v = .int (a : Int) := o
  have e2 : u = .int (c : Int) := o2
  subst e e2
  refine ⟨0, a, c, n, rfl, hr, ?_⟩
  have z := src_rangeC (X := Y) (H := H3) (lo := 0) (c := (c : Int)) (n := n)
  refine q _ H3 (s.trans s2) ⟨z.go, z.stop, fun i x Z H3 v H4 k hx y => ?_⟩
  obtain ⟨s2, e2⟩ := z.yld i x Z H3 v H4 k hx y
  refine ⟨s2, ?_⟩
  have e3 : v = .int (0 + (x : Int) * (c : Int)) := e2
  rw [e3]
  show V.int _ = V.int _
  rw [Int.zero_add, Int.natCast_mul]
theorem cntR_le (a c : Nat) : cntR a c ≤ a := by
  have h2 := PyProof.Rows.rangeSize_toNat_le 0 (a : Int) (c : Int)
  unfold cntR
  omega
theorem c_as_tables (T : Tp K mg) : Ct w K mg base 1 "as_tables" sp_as_tables := by
  refine ct_mk T (i := 38) (by decide) sc_as_tables (fun _ _ _ _ _ _ us hl => match us, hl with | [_, _], _ => rfl) (mkSp_len fun i X H vs h => ?_) fun f cdv A outer s H vs Q E hr h => ?_
  · exact a2_len h.2
  · obtain ⟨⟨q, rows, n⟩, X, k, ⟨⟨hpos, htop⟩, u1, u2, rfl, h1, h2⟩, post⟩ := h
    dsimp only at hpos htop h1 h2 post
    have nd := sc_as_tables.nd
    refine ⟨_, PSs.nox (pss_one (ps_ret (pe_lc (own := [("row", 3)]) (g := gName 3) (tt := tYes) rfl nd (pi_listK K (pv 0)) (blkOk_by (N := N_as_tables) (sc := (defScope (topS 38))) (by decide +kernel)) (fun _ _ _ _ _ => pg_name (i := 3) nd rfl (Or.inr rfl)) (fun _ _ _ _ _ => pts_nil) (fun _ _ _ _ _ => pe_lc (own := [("at", 2)]) (g := gName 2) (tt := tYes) rfl nd (pi_range3 (by rfl) (T.fr "range" (by decide)) (pa_cons pe_int (pa_cons (pe_callB (call_lenK K) (by rfl) (T.fr "len" (by decide)) PySem.boot_len (pa_cons (pv 3) pa_nil)) (pa_cons (pv 1) pa_nil)))) (blkOk_by (N := N_as_tables) (sc := ({ kind := .function, names := [(".0", .local), ("row", .cell), ("range", .globalImplicit), ("len", .globalImplicit), ("wide", .cell)], isGenerator := false, isCoroutine := false, more := [] } : Scope)) (by decide +kernel)) (fun _ _ _ _ _ => pg_name (i := 2) nd rfl (Or.inl rfl)) (fun _ _ _ _ _ => pts_nil) (fun _ _ _ _ _ => pe_slice (sl_listK K) (pv 3) (po_some (pv 2)) (po_some (pe_op op_add (pv 2) (pv 1)))))))), ?_⟩
    refine s_ret k ((en_map (R' := fun t : List (List (Fq q)) => oRows t) (fun row => (List.range (cntR row.length n)).map fun c => cutL row (some ((c * n : Nat) : Int)) (some ((c * n + n : Nat) : Int))) (ei_list (ev_var rfl h1)) (oL_len h1) fun row hrw Y H5 v5 l5 rv => ?_).ev (by rw [List.length_map]; exact oL_len h1)) fun H5 v5 s5 o5 => post H5 v5 s5 ⟨_, List.length_map _, o5⟩
    have hrl := oL_len rv
    have hcn := cntR_le row.length n
    refine ⟨_, tg1, rfl, (en_map (R := fun k : Nat => oN (k * n)) (R' := fun r : List (Fq q) => oRow r) (fun c => cutL row (some ((c * n : Nat) : Int)) (some ((c * n + n : Nat) : Int))) (ei_range3' (ev_len (ev_var rfl rv)) (ev_var rfl (up l5 h2)) hrl hpos htop) (by rw [List.length_range]; omega) fun c hc Y2 H6 v6 l6 rv6 => ⟨_, tg1, rfl, ?_⟩).ev (by rw [List.length_map, List.length_range]; omega)⟩
    exact (en_slice (ev_var rfl (up l6 rv)) (eo_some (ev_var rfl rv6)) (eo_some (ev_add (ev_var rfl rv6) (ev_var rfl (up (l5.trans l6) h2))))).ev (Nat.le_trans (cutL_le _ _ _) hrl)
/-! def base: slots 0=one 1=other 2=form -/
abbrev N_base : List Str := ["one", "other", "form"]
theorem sc_base : FnScope N_base ["one", "other"] (defScope (topS 39)) := ⟨rfl, rfl, rfl, by decide +kernel, rfl, by decide +kernel, by decide +kernel⟩
def BaseP {q : Pm} (m : Nat) (ts : List (List (List (Fq q)))) (n : Nat) (us : List (List (List (Fq q)))) (t : List (List (List (Fq q)))) : Prop := t ≠ [] ↔ baseF m n ts us ≠ []
def sp_base : L2.Sp := mkSp (ι := (q : Pm) × Crews q) (fun i X H vs => FitOk i.2.1 i.2.2.1 i.2.2.2.1 i.2.2.2.2 ∧ a2 (oCrew i.2.1 i.2.2.1) (oCrew i.2.2.2.1 i.2.2.2.2) X H vs) (fun i => oEx (fun t : List (List (List (Fq i.1))) => oTabs t) (BaseP i.2.1 i.2.2.1 i.2.2.2.1 i.2.2.2.2))
theorem ev_base {q : Pm} {m n : Nat} {ts us : List (List (List (Fq q)))} (ok : FitOk m ts n us) (h1 : EvP ta σ X H (oCrew m ts)) (h2 : EvP tb σ X H (oCrew n us)) : EvP (tCall sp_base [] E0 (tCons ta (tCons tb tNil))) σ X H (oEx (fun t : List (List (List (Fq q))) => oTabs t) (BaseP m ts n us)) :=
  ev_call (⟨q, m, ts, n, us⟩ : (q : Pm) × Crews q) (EvA.pre ok (ea2 h1 h2))
theorem s_drop {O : Ob} {u : TS} {D : Ends} (k : Kn X H) (h : EvP te σ X H O) (next : ∀ H1 v, Same H H1 → O X H1 v → u D σ H1) : tSeq (tDrop te) u D σ H := h X H (Lt.refl k) _ next
theorem c_base (c_look_fit : Ct w K mg base 1 "look_fit" sp_look_fit) (c_low : Ct w K mg base 5 "low" sp_low) (c_asked_rows : Ct w K mg base 2 "asked_rows" sp_asked_rows) (c_across : Ct w K mg base 6 "across" sp_across) (c_as_tables : Ct w K mg base 1 "as_tables" sp_as_tables) (T : Tp K mg) : Ct w K mg base 7 "base" sp_base := by
  refine ct_mk T (i := 39) (by decide) sc_base (fun _ _ _ _ _ _ us hl => match us, hl with | [_, _], _ => rfl) (mkSp_len fun i X H vs h => ?_) fun f cdv A outer s H vs Q E hr h => ?_
  · exact a2_len h.2
  · obtain ⟨⟨q, m, ts, n, us⟩, X, k, ⟨ok, u1, u2, rfl, h1, h2⟩, post⟩ := h
    dsimp only at ok h1 h2 post
    have nd := sc_base.nd
    refine ⟨_, PSs.nox (pss_cons (ps_expr (pe_ct c_look_fit hr (by decide) (by rfl) (pa_cons (pv 0) (pa_cons (pv 1) pa_nil))))
  (pss_cons (ps_set (i := 2) nd rfl (.inl rfl) (pe_ct c_low hr (by decide) (by rfl) (pa_cons (pe_ix (ix_tupK K) (pv 0) pe_int (fun _ _ => rfl)) (pa_cons (pe_ct c_asked_rows hr (by decide) (by rfl) (pa_cons (pv 0) (pa_cons (pv 1) pa_nil))) pa_nil))))
  (pss_one (ps_ret (pe_ct c_as_tables hr (by decide) (by rfl) (pa_cons (pe_ct c_across hr (by decide) (by rfl) (pa_cons (pe_ix (ix_tupK K) (pv 0) pe_int (fun _ _ => rfl)) (pa_cons (pe_op op_mul (pe_ix (ix_tupK K) (pv 0) pe_int (fun _ _ => rfl)) (pe_ix (ix_tupK K) (pv 1) pe_int (fun _ _ => rfl))) (pa_cons (pv 2) pa_nil)))) (pa_cons (pe_ix (ix_tupK K) (pv 1) pe_int (fun _ _ => rfl)) pa_nil))))))), ?_⟩
    refine s_drop k (ev_look_fit ok.eq (ev_var rfl h1) (ev_var rfl h2)) fun H1 v1 s1 _ => ?_
    have k1 := k.same s1
    have h11 := rsm s1 h1
    have h21 := rsm s1 h2
    have hlen := asked_len m n ts us
    have hmn : m * n ≤ 36 := Nat.le_trans (Nat.mul_le_mul ok.a.six ok.b.six) (by decide)
    refine s_set k1 (ev_low hlen (ev_t0 (ev_var rfl h11)) (ev_asked_rows ok (ev_var rfl h11) (ev_var rfl h21))) fun H2 v2 s2 o2 => ?_
    have h12 := rsm s2 h11
    have h22 := rsm s2 h21
    have hlo := low_lo hlen
    refine s_ret (k1.same s2) (ev_as_tables (n := n) ⟨ok.b.pos, by have := ok.b.six; omega⟩ (ev_across (n := m * n) ⟨hlo.toPre, by omega⟩ (ev_t0 (ev_var rfl h12)) (ev_mulN (ev_t1 (ev_var rfl h12)) (ev_t1 (ev_var rfl h22)) (by have := ok.b.six; omega)) (ev_var rfl o2)) (ev_t1 (ev_var rfl h22))) fun H5 v5 s5 ⟨t, ht, o5⟩ => post H5 v5 ((s1.trans s2).trans s5) ⟨t, ?_, o5⟩
    unfold BaseP baseF
    rw [← List.length_pos_iff, ← List.length_pos_iff, ht]
/-! def first_alike: slots 0=one 1=other 2=found -/
abbrev N_first_alike : List Str := ["one", "other", "found"]
theorem sc_first_alike : FnScope N_first_alike ["one", "other"] (defScope (topS 40)) := ⟨rfl, rfl, rfl, by decide +kernel, rfl, by decide +kernel, by decide +kernel⟩
def AlkP {q : Pm} (m : Nat) (ts : List (List (List (Fq q)))) (n : Nat) (us : List (List (List (Fq q)))) (o : Option (List (List (Fq q)))) : Prop := o ≠ none ↔ (m = n ∧ baseF m n ts us ≠ [])
def sp_first_alike : L2.Sp := mkSp (ι := (q : Pm) × Crews q) (fun i X H vs => FitOk i.2.1 i.2.2.1 i.2.2.2.1 i.2.2.2.2 ∧ a2 (oCrew i.2.1 i.2.2.1) (oCrew i.2.2.2.1 i.2.2.2.2) X H vs) (fun i => oEx (fun o : Option (List (List (Fq i.1))) => oO (fun t => oRows t) o) (AlkP i.2.1 i.2.2.1 i.2.2.2.1 i.2.2.2.2))
theorem ev_first_alike {q : Pm} {m n : Nat} {ts us : List (List (List (Fq q)))} (ok : FitOk m ts n us) (h1 : EvP ta σ X H (oCrew m ts)) (h2 : EvP tb σ X H (oCrew n us)) : EvP (tCall sp_first_alike [] E0 (tCons ta (tCons tb tNil))) σ X H (oEx (fun o : Option (List (List (Fq q))) => oO (fun t => oRows t) o) (AlkP m ts n us)) :=
  ev_call (⟨q, m, ts, n, us⟩ : (q : Pm) × Crews q) (EvA.pre ok (ea2 h1 h2))
theorem c_first_alike (c_base : Ct w K mg base 7 "base" sp_base) (T : Tp K mg) : Ct w K mg base 8 "first_alike" sp_first_alike := by
  refine ct_mk T (i := 40) (by decide) sc_first_alike (fun _ _ _ _ _ _ us hl => match us, hl with | [_, _], _ => rfl) (mkSp_len fun i X H vs h => ?_) fun f cdv A outer s H vs Q E hr h => ?_
  · exact a2_len h.2
  · obtain ⟨⟨q, m, ts, n, us⟩, X, k, ⟨ok, u1, u2, rfl, h1, h2⟩, post⟩ := h
    dsimp only at ok h1 h2 post
    have nd := sc_first_alike.nd
    refine ⟨_, PSs.nox (pss_cons (ps_set (i := 2) nd rfl (.inl rfl) (pe_ct c_base hr (by decide) (by rfl) (pa_cons (pv 0) (pa_cons (pv 1) pa_nil))))
  (pss_cons (ps_if (PW.pt (pw_or (pt_cmpR op_ne (pe_ix (ix_tupK K) (pv 0) pe_int (fun _ _ => rfl)) (pe_ix (ix_tupK K) (pv 1) pe_int (fun _ _ => rfl)) (nomark _)) (pw_or1 (pt_cmpR (op_eqDK K hr.units) (pv 2) (pe_lst pa_nil) (nomark _)))))
    (pss_one (ps_ret pe_non)) pss_nil)
  (pss_one (ps_ret (pe_ix (ix_listK K) (pv 2) pe_int (fun _ _ => rfl)))))), ?_⟩
    refine s_set k (ev_base ok (ev_var rfl h1) (ev_var rfl h2)) fun H1 v1 s1 ⟨t, ht, o1⟩ => ?_
    have k1 := k.same s1
    have h11 := rsm s1 h1
    have h21 := rsm s1 h2
    refine s_if k1 (et_or (et_test (ev_ne (ev_t1 (ev_var rfl h11)) (ev_t1 (ev_var rfl h21)) rfl)) fun _ => et_test (ev_eqD (R := fun t : List (List (List (Fq q))) => oTabs t) (by decide : (3 : Nat) ≤ 64) (ev_var rfl o1) ((en_nil (R := fun r : List (List (Fq q)) => oRows r)).ev (by simp)))) (fun hb H2 s2 => ?_) fun hb H2 s2 => ?_
    · refine s_ret (k1.same s2) ev_c fun H3 v3 s3 o3 => post H3 v3 ((s1.trans s2).trans s3) ⟨none, ?_, o3⟩
      unfold AlkP
      rw [dec_nat] at hb
      simp only [Bool.or_eq_true, Bool.not_eq_true', decide_eq_false_iff_not, decide_eq_true_eq] at hb
      refine ⟨fun z => absurd rfl z, fun z => ?_⟩
      rcases hb with hb | hb
      · exact absurd z.1 hb
      · exact absurd hb (ht.mpr z.2)
    · rw [dec_nat] at hb
      simp only [Bool.or_eq_false_iff, Bool.not_eq_false', decide_eq_false_iff_not, decide_eq_true_eq] at hb
      obtain ⟨r, hr⟩ : ∃ r, t[0]? = some r := by
        cases t with
        | nil => exact absurd rfl hb.2
        | cons r t => exact ⟨r, rfl⟩
      refine s_ret (k1.same s2) (ev_ix (i := 0) (ev_var rfl (rsm s2 o1)) ev_nat hr) fun H3 v3 s3 o3 => post H3 v3 ((s1.trans s2).trans s3) ⟨some r, ?_, o3⟩
      unfold AlkP
      exact ⟨fun _ => ⟨hb.1, ht.mp hb.2⟩, fun _ z => nomatch z⟩
end
end Still

set_option Elab.async false
set_option linter.all false
set_option maxRecDepth 100000
set_option maxHeartbeats 4000000
namespace Still
open PySem PySem.Spec PyProof.Rows L2
section
variable {w : World} {K : PySem.W.Frag} {mg : Str → Option Value} {base : Heap}
variable {σ : L2.St} {X : AX} {H : Hp} {ta tb tc td te : TE}
/-! def is_within: slots 0=p 1=lower 2=upper 3=row -/
abbrev N_is_within : List Str := ["p", "lower", "upper", "row"]
theorem sc_is_within : FnScope N_is_within ["p", "lower", "upper"] (defScope (topS 42)) := ⟨rfl, rfl, rfl, by decide +kernel, rfl, by decide +kernel, by decide +kernel⟩
structure WiOk {q : Pm} (n : Nat) (lower upper : List (List (Fq q))) : Prop where
  pre : Pre n upper
  row : ∀ r, r ∈ lower → r.length = n
abbrev FmI (q : Pm) : Type := Nat × List (List (Fq q)) × List (List (Fq q))
def sp_is_within : L2.Sp := mkSp (ι := (q : Pm) × FmI q) (fun i X H vs => WiOk i.2.1 i.2.2.1 i.2.2.2 ∧ a3 (oN i.1.n) (oRows i.2.2.1) (oRows i.2.2.2) X H vs) (fun i => oB (i.2.2.1.all fun r => hasM i.2.2.2 r))
theorem ev_is_within {q : Pm} {n : Nat} {lower upper : List (List (Fq q))} (ok : WiOk n lower upper) (h1 : EvP ta σ X H (oN q.n)) (h2 : EvP tb σ X H (oRows lower)) (h3 : EvP tc σ X H (oRows upper)) : EvP (tCall sp_is_within [] E0 (tCons ta (tCons tb (tCons tc tNil)))) σ X H (oB (lower.all fun r => hasM upper r)) :=
  ev_call (⟨q, n, lower, upper⟩ : (q : Pm) × FmI q) (EvA.pre ok (ea3 h1 h2 h3))
theorem c_is_within (c_has : Ct w K mg base 4 "has" sp_has) (T : Tp K mg) : Ct w K mg base 5 "is_within" sp_is_within := by
  refine ct_mk T (i := 42) (by decide) sc_is_within (fun _ _ _ _ _ _ us hl => match us, hl with | [_, _, _], _ => rfl) (mkSp_len fun i X H vs h => ?_) fun f cdv A outer s H vs Q E hr h => ?_
  · exact a3_len h.2
  · obtain ⟨⟨q, n, lower, upper⟩, X, k, ⟨⟨hp, hrw⟩, u1, u2, u3, rfl, h1, h2, h3⟩, post⟩ := h
    dsimp only at hp hrw h1 h2 h3 post
    have nd := sc_is_within.nd
    refine ⟨_, PSs.nox (pss_one (ps_ret (pe_callB (cr_allK K rfl) (by rfl) (T.fr "all" (by decide)) (by decide +kernel) (pa_cons (pe_lc (own := [("row", 3)]) (g := gName 3) (tt := tYes) rfl nd (pi_listK K (pv 1)) (blkOk_by (N := N_is_within) (sc := (defScope (topS 42))) (by decide +kernel)) (fun _ _ _ _ _ => pg_name (i := 3) nd rfl (Or.inl rfl)) (fun _ _ _ _ _ => pts_nil) (fun _ _ _ _ _ => pe_ct c_has hr (by decide) (by rfl) (pa_cons (pv 0) (pa_cons (pv 2) (pa_cons (pv 3) pa_nil))))) pa_nil)))), ?_⟩
    exact s_ret k (ev_allM (xs := lower) (f := fun r => hasM upper r) ((en_map (R' := fun b : Bool => oB b) _ (ei_list (ev_var rfl h2)) (oL_len h2) fun o ho Y H5 v5 l5 rv => ⟨_, tg1, rfl, ev_has hp (hrw o ho) (ev_var rfl (up l5 h1)) (ev_var rfl (up l5 h3)) (ev_var rfl rv)⟩).ev (by rw [List.length_map]; exact oL_len h2))) fun H5 v5 s5 o5 => post H5 v5 s5 o5
/-! def rows_between: slots 0=lower 1=upper 2=leads 3=row -/
abbrev N_rows_between : List Str := ["lower", "upper", "leads", "row"]
theorem sc_rows_between : FnScope N_rows_between ["lower", "upper"] (defScope (topS 43)) := ⟨rfl, rfl, rfl, by decide +kernel, rfl, by decide +kernel, by decide +kernel⟩
structure RbOk {q : Pm} (n : Nat) (lower upper : List (List (Fq q))) : Prop where
  l : Pre n lower
  u : Pre n upper
def sp_rows_between : L2.Sp := mkSp (ι := (q : Pm) × FmI q) (fun i X H vs => RbOk i.2.1 i.2.2.1 i.2.2.2 ∧ a2 (oRows i.2.2.1) (oRows i.2.2.2) X H vs) (fun i => oRows (betw i.2.2.1 i.2.2.2))
theorem ev_rows_between {q : Pm} {n : Nat} {lower upper : List (List (Fq q))} (ok : RbOk n lower upper) (h2 : EvP tb σ X H (oRows lower)) (h3 : EvP tc σ X H (oRows upper)) : EvP (tCall sp_rows_between [] E0 (tCons tb (tCons tc tNil))) σ X H (oRows (betw lower upper)) :=
  ev_call (⟨q, n, lower, upper⟩ : (q : Pm) × FmI q) (EvA.pre ok (ea2 h2 h3))
theorem c_rows_between (c_lead : Ct w K mg base 1 "lead" sp_lead) (T : Tp K mg) : Ct w K mg base 2 "rows_between" sp_rows_between := by
  refine ct_mk T (i := 43) (by decide) sc_rows_between (fun _ _ _ _ _ _ us hl => match us, hl with | [_, _], _ => rfl) (mkSp_len fun i X H vs h => ?_) fun f cdv A outer s H vs Q E hr h => ?_
  · exact a2_len h.2
  · obtain ⟨⟨q, n, lower, upper⟩, X, k, ⟨⟨hl, hu⟩, u1, u2, rfl, h1, h2⟩, post⟩ := h
    dsimp only at hl hu h1 h2 post
    have nd := sc_rows_between.nd
    refine ⟨_, PSs.nox (pss_cons (ps_set (i := 2) nd rfl (.inr rfl) (pe_lc (own := [("row", 3)]) (g := gName 3) (tt := tYes) rfl nd (pi_listK K (pv 0)) (blkOk_by (N := N_rows_between) (sc := (defScope (topS 43))) (by decide +kernel)) (fun _ _ _ _ _ => pg_name (i := 3) nd rfl (Or.inl rfl)) (fun _ _ _ _ _ => pts_nil) (fun _ _ _ _ _ => pe_ct c_lead hr (by decide) (by rfl) (pa_cons (pv 3) pa_nil))))
  (pss_one (ps_ret (pe_lc (own := [("row", 3)]) (g := gName 3) rfl nd (pi_listK K (pv 1)) (blkOk_by (N := N_rows_between) (sc := (defScope (topS 43))) (by decide +kernel)) (fun _ _ _ _ _ => pg_name (i := 3) nd rfl (Or.inl rfl)) (fun _ _ _ _ _ => pts_one (pt_cmpR (op_notInK K) (pe_ct c_lead hr (by decide) (by rfl) (pa_cons (pv 3) pa_nil)) (pv 2) (by rfl))) (fun _ _ _ _ _ => pv 3))))), ?_⟩
    refine s_set k ((en_map (R' := fun k : Nat => oN k) ld (ei_list (ev_var rfl h1)) (oL_len h1) fun o ho Y H5 v5 l5 rv => ⟨_, tg1, rfl, lead_ev (hl.hd o ho) (ev_lead (ev_var rfl rv))⟩).ev (by rw [List.length_map]; exact oL_len h1)) fun H1 v1 s1 o1 => ?_
    have h2a := rsm s1 h2
    have hf : (upper.filter fun r => decide (ld r ∉ lower.map ld)).length ≤ 5000 := Nat.le_trans (List.length_filter_le _ _) (oL_len h2)
    refine s_ret (k.same s1) ((((en_lc (R' := fun r : List (Fq q) => oRow r) (fun r => r) (fun r => decide (ld r ∉ lower.map ld)) (ei_list (ev_var rfl h2a)) (oL_len h2a) fun o ho Y H5 v5 l5 rv => ⟨_, tg1, rfl, et_test (ev_notIn (lead_ev (hu.hd o ho) (ev_lead (ev_var rfl rv))) (ev_var rfl (up l5 o1))), fun _ => ev_var rfl rv⟩).eq (List.map_id' _)).ev hf)) fun H5 v5 s5 o5 => post H5 v5 (s1.trans s5) o5
/-! def written: slots 0=p 1=lower 2=rows 3=row 4=left 5=one 6=often 7=number 8=less -/
abbrev N_written : List Str := ["p", "lower", "rows", "row", "left", "one", "often", "number", "less"]
theorem sc_written : FnScope N_written ["p", "lower", "rows", "row"] (defScope (topS 44)) := ⟨rfl, rfl, rfl, by decide +kernel, rfl, by decide +kernel, by decide +kernel⟩
structure WtOk {q : Pm} (n : Nat) (lower rows : List (List (Fq q))) (x : List (Fq q)) : Prop where
  l : Pre n lower
  hd : ∀ r, r ∈ rows → leadM r = some (ld r) ∧ ld r < n
  x : x.length = n
abbrev WrI (q : Pm) : Type := Nat × List (List (Fq q)) × List (List (Fq q)) × List (Fq q)
def sp_written : L2.Sp := mkSp (ι := (q : Pm) × WrI q) (fun i X H vs => WtOk i.2.1 i.2.2.1 i.2.2.2.1 i.2.2.2.2 ∧ a4 (oN i.1.n) (oRows i.2.2.1) (oRows i.2.2.2.1) (oRow i.2.2.2.2) X H vs) (fun i => oRow (crdM i.2.2.1 i.2.2.2.1 i.2.2.2.2))
theorem ev_written {q : Pm} {n : Nat} {lower rows : List (List (Fq q))} {x : List (Fq q)} (ok : WtOk n lower rows x) (h1 : EvP ta σ X H (oN q.n)) (h2 : EvP tb σ X H (oRows lower)) (h3 : EvP tc σ X H (oRows rows)) (h4 : EvP td σ X H (oRow x)) : EvP (tCall sp_written [] E0 (tCons ta (tCons tb (tCons tc (tCons td tNil))))) σ X H (oRow (crdM lower rows x)) :=
  ev_call (⟨q, n, lower, rows, x⟩ : (q : Pm) × WrI q) (EvA.pre ok (ea4 h1 h2 h3 h4))
theorem Pre.take {q : Pm} {n : Nat} {form : List (List (Fq q))} (hp : Pre n form) (i : Nat) : Pre n (form.take i) := ⟨fun r hr => hp.row r (List.mem_of_mem_take hr), fun r hr => hp.hd r (List.mem_of_mem_take hr), fun r hr => hp.one r (List.mem_of_mem_take hr), fun r hr s hs => hp.zer r (List.mem_of_mem_take hr) s (List.mem_of_mem_take hs), (((List.take_sublist i form).map ld).nodup hp.nd)⟩
theorem c_written (c_lead : Ct w K mg base 1 "lead" sp_lead) (T : Tp K mg) : Ct w K mg base 2 "written" sp_written := by
  refine ct_mk T (i := 44) (by decide) sc_written (fun _ _ _ _ _ _ us hl => match us, hl with | [_, _, _, _], _ => rfl) (mkSp_len fun i X H vs h => ?_) fun f cdv A outer s H vs Q E hr h => ?_
  · exact a4_len h.2
  · obtain ⟨⟨q, n, lower, rows, x⟩, X, k, ⟨⟨hp, hd, hx⟩, u1, u2, u3, u4, rfl, h1, h2, h3, h4⟩, post⟩ := h
    dsimp only at hp hd hx h1 h2 h3 h4 post
    have nd := sc_written.nd
    refine ⟨_, PSs.nox (pss_cons (ps_set (i := 4) nd rfl (.inr rfl) (pe_callTy (call_listK K) (by rfl) (T.fr "list" (by decide)) (by decide +kernel) (pa_cons (pv 3) pa_nil)))
  (pss_cons (ps_for PassesOwn.never rfl (pi_listK K (pv 1)) (pg_name (i := 5) nd rfl (Or.inl rfl))
    (pss_cons (ps_set (i := 6) nd rfl (.inr rfl) (pe_ix (ix_listK K) (pv 4) (pe_ct c_lead hr (by decide) (by rfl) (pa_cons (pv 5) pa_nil)) (fun _ _ => rfl)))
  (pss_one (ps_set (i := 4) nd rfl (.inr rfl) (pe_lc (own := [("number", 7), ("less", 8)]) (g := gTup K 2 (gCons (gName 7) (gCons (gName 8) gNil))) (tt := tYes) rfl nd (pi_zipK K (by rfl) (T.fr "zip" (by decide)) (pa_cons (pv 4) (pa_cons (pv 5) pa_nil))) (blkOk_by (N := N_written) (sc := (defScope (topS 44))) (by decide +kernel)) (fun _ _ _ _ _ => pg_tup (by rfl) (pgs_cons (pg_name (i := 7) nd rfl (Or.inl rfl)) (pgs_cons (pg_name (i := 8) nd rfl (Or.inl rfl)) pgs_nil))) (fun _ _ _ _ _ => pts_nil) (fun _ _ _ _ _ => pe_op op_modN (pe_op op_sub (pv 7) (pe_op op_mul (pv 6) (pv 8))) (pv 0)))))))
  (pss_one (ps_ret (pe_lc (own := [("one", 5)]) (g := gName 5) (tt := tYes) rfl nd (pi_listK K (pv 2)) (blkOk_by (N := N_written) (sc := (defScope (topS 44))) (by decide +kernel)) (fun _ _ _ _ _ => pg_name (i := 5) nd rfl (Or.inl rfl)) (fun _ _ _ _ _ => pts_nil) (fun _ _ _ _ _ => pe_ix (ix_listK K) (pv 4) (pe_ct c_lead hr (by decide) (by rfl) (pa_cons (pv 5) pa_nil)) (fun _ _ => rfl))))))), ?_⟩
    have hn : n ≤ 5000 := by rw [← hx]; exact oL_len h4
    refine s_set k ((en_list (ev_var rfl h4)).ev (oL_len h4)) fun H1 v s1 hv => ?_
    have k1 := k.same s1
    have l1 := Lt.of k s1
    refine s_for k1 (ei_list (ev_var rfl (up l1 h2))) fun H2 s2 l2 => ?_
    refine ⟨fun i σ1 H3 => (∃ z z2 vf, σ1 = [some u1, some u2, some u3, some u4, some vf, z, z2, none, none] ∧ oRow (leftM (lower.take i) x) X H3 vf) ∧ Same H H3, ⟨⟨none, none, v, rfl, by rw [List.take_zero]; exact up l2 hv⟩, s1.trans s2⟩, ?_, ?_⟩
    · rintro i o σ1 H3 H4 vo ho l3 ⟨⟨z, z2, vf, rfl, hf⟩, sa⟩ s4 hvo
      have hm := List.mem_of_getElem? ho
      have hll : (leftM (lower.take i) x).length = n := left_len (hp.take i).row hx
      have l4 := l3.same s4
      have lk := l1.trans (l2.trans l4)
      have hf4 := rsm s4 hf
      refine tg1 _ ?_
      refine s_set l4.kn (ev_ix (R := fun a : Fq q => oF a) (i := ld o) (ev_var rfl hf4) (lead_ev (hp.hd o hm) (ev_lead (ev_var rfl hvo))) (vc_get (by rw [hll]; exact hp.lt Fd.ne hm))) fun H5 v5 s5 o5 => ?_
      have l5 := l4.same s5
      have lk5 := lk.same s5
      have hf5 := rsm s5 hf4
      have hvo5 := rsm s5 hvo
      refine s_set1 l5.kn (((en_map (R' := fun x : Fq q => oF x) (fun p : Fq q × Fq q => p.1 - vc (leftM (lower.take i) x) (ld o) * p.2) (ei_zip (ev_var rfl hf5) (ev_var rfl hvo5) (by rw [hll, hp.row o hm])) (by rw [List.length_zip, hll]; omega) fun p hp Y H6 v6 l6 rv => ?_).eq (show _ = tkM (leftM (lower.take i) x) (vc (leftM (lower.take i) x) (ld o)) o from (zw_map (fun a b => a - vc (leftM (lower.take i) x) (ld o) * b) _ _).symm)).ev (by unfold tkM; rw [List.length_zipWith, hll]; omega)) fun H6 v6 s6 o6 => ?_
      · obtain ⟨a, b, ha, hb, tg⟩ := tg2 (K := K) (i := 7) (j := 8) (σ := [some u1, some u2, some u3, some u4, some vf, some vo, some v5, none, none]) rv
        refine ⟨_, tg, rfl, ?_⟩
        refine ev_modF (i := vl p.1 - vl (vc (leftM (lower.take i) x) (ld o)) * vl p.2) (ev_I0 (ev_var rfl ha) (ev_mulR (ev_var rfl (up l6 o5)) (ev_var rfl hb) (vl_64 p.2))) (ev_var rfl (up (lk5.trans l6) h1)) ?_
        rw [el_sub_mul, el_vl]
      · refine ⟨⟨⟨_, _, _, rfl, ?_⟩, ((sa.trans s4).trans s5).trans s6⟩, l5.same s6⟩
        unfold leftM
        rw [take_fold _ _ ho]
        exact o6
    · rintro σ1 H3 l3 ⟨⟨z, z2, vf, rfl, hf⟩, sa⟩
      rw [take_all] at hf
      have lk := l1.trans (l2.trans l3)
      have h33 := up lk h3
      have hll : (leftM lower x).length = n := left_len hp.row hx
      exact s_ret l3.kn ((en_map (R' := fun a : Fq q => oF a) (fun one => vc (leftM lower x) (ld one)) (ei_list (ev_var rfl h33)) (oL_len h33) fun o ho Y H5 v5 l5 rv => ⟨_, tg1, rfl, ev_ix (R := fun a : Fq q => oF a) (i := ld o) (ev_var rfl (up l5 hf)) (lead_ev (hd o ho).1 (ev_lead (ev_var rfl rv))) (vc_get (by rw [hll]; exact (hd o ho).2))⟩).ev (by rw [List.length_map]; exact oL_len h33)) fun H5 v5 s5 o5 => post H5 v5 (sa.trans s5) o5
/-! def part_between: slots 0=crew 1=lower 2=upper 3=p 4=size 5=tables 6=rows 7=found 8=table 9=row -/
abbrev N_part_between : List Str := ["crew", "lower", "upper", "p", "size", "tables", "rows", "found", "table", "row"]
theorem sc_part_between : FnScope N_part_between ["crew", "lower", "upper"] (defScope (topS 45)) := ⟨rfl, rfl, rfl, by decide +kernel, rfl, by decide +kernel, by decide +kernel⟩
structure PbOk {q : Pm} (n : Nat) (tabs : List (List (List (Fq q)))) (lower upper : List (List (Fq q))) : Prop where
  cr : CrOk n tabs
  l : Pre n lower
  u : Pre n upper
abbrev PbI (q : Pm) : Type := Nat × List (List (List (Fq q))) × List (List (Fq q)) × List (List (Fq q))
def sp_part_between : L2.Sp := mkSp (ι := (q : Pm) × PbI q) (fun i X H vs => PbOk i.2.1 i.2.2.1 i.2.2.2.1 i.2.2.2.2 ∧ a3 (oCrew i.2.1 i.2.2.1) (oRows i.2.2.2.1) (oRows i.2.2.2.2) X H vs) (fun i => oCrew (betw i.2.2.2.1 i.2.2.2.2).length (partM i.2.2.2.1 i.2.2.2.2 i.2.2.1))
theorem ev_part_between {q : Pm} {n : Nat} {tabs : List (List (List (Fq q)))} {lower upper : List (List (Fq q))} (ok : PbOk n tabs lower upper) (h1 : EvP ta σ X H (oCrew n tabs)) (h2 : EvP tb σ X H (oRows lower)) (h3 : EvP tc σ X H (oRows upper)) : EvP (tCall sp_part_between [] E0 (tCons ta (tCons tb (tCons tc tNil)))) σ X H (oCrew (betw lower upper).length (partM lower upper tabs)) :=
  ev_call (⟨q, n, tabs, lower, upper⟩ : (q : Pm) × PbI q) (EvA.pre ok (ea3 h1 h2 h3))
theorem c_part_between (c_rows_between : Ct w K mg base 2 "rows_between" sp_rows_between) (c_led : Ct w K mg base 4 "led" sp_led) (c_written : Ct w K mg base 2 "written" sp_written) (T : Tp K mg) : Ct w K mg base 5 "part_between" sp_part_between := by
  refine ct_mk T (i := 45) (by decide) sc_part_between (fun _ _ _ _ _ _ us hl => match us, hl with | [_, _, _], _ => rfl) (mkSp_len fun i X H vs h => ?_) fun f cdv A outer s H vs Q E hr h => ?_
  · exact a3_len h.2
  · obtain ⟨⟨q, n, tabs, lower, upper⟩, X, k, ⟨⟨ok, hl, hu⟩, u1, u2, u3, rfl, h1, h2, h3⟩, post⟩ := h
    dsimp only at ok hl hu h1 h2 h3 post
    have nd := sc_part_between.nd
    refine ⟨_, PSs.nox (pss_cons (ps_asg (pv 0) (pg_tup (by rfl) (pgs_cons (pg_name (i := 3) nd rfl (Or.inr rfl)) (pgs_cons (pg_name (i := 4) nd rfl (Or.inl rfl)) (pgs_cons (pg_name (i := 5) nd rfl (Or.inl rfl)) pgs_nil)))))
  (pss_cons (ps_set (i := 6) nd rfl (.inr rfl) (pe_ct c_rows_between hr (by decide) (by rfl) (pa_cons (pv 1) (pa_cons (pv 2) pa_nil))))
  (pss_cons (ps_set (i := 7) nd rfl (.inl rfl) (pe_lst pa_nil))
  (pss_cons (ps_for PassesOwn.never rfl (pi_listK K (pv 5)) (pg_name (i := 8) nd rfl (Or.inr rfl))
    (pss_one (ps_expr (pe_bm PySem.F.plainAttrs_list PySem.F.slot_list_append PySem.F.type_list_append mt_append (pv 7) (pa_cons (pe_lc (own := [("row", 9)]) (g := gName 9) (tt := tYes) rfl nd (pi_listK K (pv 6)) (blkOk_by (N := N_part_between) (sc := (defScope (topS 45))) (by decide +kernel)) (fun _ _ _ _ _ => pg_name (i := 9) nd rfl (Or.inl rfl)) (fun _ _ _ _ _ => pts_nil) (fun _ _ _ _ _ => pe_ct c_written hr (by decide) (by rfl) (pa_cons (pv 3) (pa_cons (pv 1) (pa_cons (pv 6) (pa_cons (pe_ct c_led hr (by decide) (by rfl) (pa_cons (pv 3) (pa_cons (pv 9) (pa_cons (pv 8) pa_nil)))) pa_nil)))))) pa_nil)))))
  (pss_one (ps_ret (pe_tup (pa_cons (pv 3) (pa_cons (pe_callB (call_lenK K) (by rfl) (T.fr "len" (by decide)) PySem.boot_len (pa_cons (pv 6) pa_nil)) (pa_cons (pv 7) pa_nil)))))))))), ?_⟩
    refine s_unpack3 k (ev_var rfl h1) fun H1 x y z s1 hx hy hz => ?_
    have hx : x = .int (q.n : Int) := hx
    have px : ∀ {X H}, oN q.n X H x := fun {_ _} => hx
    have k1 := k.same s1
    refine s_set k1 (ev_rows_between ⟨hl, hu⟩ (ev_var rfl (rsm s1 h2)) (ev_var rfl (rsm s1 h3))) fun H2 vr s2 hr2 => ?_
    have k2 := k1.same s2
    have hbm : ∀ r, r ∈ betw lower upper → r ∈ upper := fun r hr => (List.mem_filter.mp hr).1
    refine s_new k2 (en_nil (R := fun t : List (List (Fq q)) => oRows t)) fun H3 l vs s3 nl ell it3 l3 => ?_
    have hv0 : vs = [] := List.length_eq_zero_iff.mp it3.1
    subst hv0
    have hz3 := up l3 (rsm s2 hz)
    have hr3 := up l3 hr2
    have h23 := up l3 (rsm s2 (rsm s1 h2))
    have sb : Same H H3 := (s1.trans s2).trans s3
    refine s_for l3.kn (ei_list (ev_var rfl hz3)) fun H4 s4 l4 => ?_
    refine ⟨fun i σ1 H5 => (∃ z1, σ1 = [some u1, some u2, some u3, some x, some y, some z, some vr, some (.ref l), z1, none]) ∧ (∃ acc, H5 l = some (.lst acc) ∧ Its (fun t : List (List (Fq q)) => oRows t) (hid X l) H5 acc ((tabs.take i).map (part1 lower upper))) ∧ Same H H5, ⟨⟨none, rfl⟩, ⟨[], s4 _ _ ell, by rw [List.take_zero]; exact Its.nil⟩, sb.trans s4⟩, ?_, ?_⟩
    · rintro i A σ1 H5 H6 vA hA l5 ⟨⟨z1, rfl⟩, ⟨acc, ea, ia⟩, sa⟩ s6 hvA
      have l6 := l5.same s6
      have lk6 := l4.trans l6
      have hAm := List.mem_of_getElem? hA
      have hr6 := up lk6 hr3
      refine tg1 _ ?_
      have hlen : acc.length < 5000 := by
        have e1 := ia.1
        rw [List.length_map, List.length_take] at e1
        have := (List.getElem?_eq_some_iff.mp hA).1
        have := oL_len hz
        omega
      refine s_append l6.kn rfl (s6 _ _ ea) hlen ((en_map (R' := fun r : List (Fq q) => oRow r) (fun r => crdM lower (betw lower upper) (ledM r A)) (ei_list (ev_var rfl hr6)) (oL_len hr6) fun r hr Y H7 v7 l7 rv => ⟨_, tg1, rfl, ?_⟩).ev (by rw [List.length_map]; exact oL_len hr6)) fun H8 v8 s8 o8 => ?_
      · have hrl := hu.row r (hbm r hr)
        have lk7 := lk6.trans l7
        exact ev_written ⟨hl, fun s hs => ⟨hu.hd s (hbm s hs), hu.lt Fd.ne (hbm s hs)⟩, ok.ledn hAm hrl⟩ (ev_var rfl px) (ev_var rfl (up lk7 h23)) (ev_var rfl (up lk7 hr3)) (ev_led (ok.led hAm hrl) (ev_var rfl px) (ev_var rfl rv) (ev_var rfl (up l7 hvA)))
      · have lw : Lt (hid X l) H8 (hid X l) (upd H8 l (.lst (acc ++ [v8]))) := (Lt.refl (l6.kn.same s8)).write (.inr rfl)
        refine ⟨⟨⟨_, rfl⟩, ⟨_, upd_same, ?_⟩, same_write ((sa.trans s6).trans s8) ((s1.trans s2).free nl)⟩, (l6.same s8).trans lw⟩
        rw [take_mapS hA]
        exact (((ia.sm s6).sm s8).up lw).snoc (up lw o8)
    · rintro σ1 H5 l5 ⟨⟨z1, rfl⟩, ⟨acc, ea, ia⟩, sa⟩
      rw [take_all] at ia
      have lk5 := l4.trans l5
      have or : oTabs (partM lower upper tabs) X H5 (.ref l) := oL.mk (notKn k2 nl) ea (ia.dn hid_wk) (by unfold partM; rw [List.length_map]; exact oL_len hz)
      have hr5 : oRows (betw lower upper) X H5 vr := dn hid_wk (up lk5 hr3)
      exact s_ret (kn_wk l5.kn hid_wk) (ev_tup3 (ev_var rfl px) (ev_len (ev_var rfl hr5)) (ev_var rfl or)) fun H6 v6 s6 o6 => post H6 v6 (sa.trans s6) o6
/-! def lifted: slots 0=p 1=rows 2=shares 3=found 4=row 5=often 6=number 7=more -/
abbrev N_lifted : List Str := ["p", "rows", "shares", "found", "row", "often", "number", "more"]
theorem sc_lifted : FnScope N_lifted ["p", "rows", "shares"] (defScope (topS 46)) := ⟨rfl, rfl, rfl, by decide +kernel, rfl, by decide +kernel, by decide +kernel⟩
structure LfOk {q : Pm} (n : Nat) (rows : List (List (Fq q))) (x : List (Fq q)) : Prop where
  len : x.length = rows.length
  row : ∀ r, r ∈ rows → r.length = n
  ne : rows ≠ []
abbrev LiI (q : Pm) : Type := Nat × List (List (Fq q)) × List (Fq q)
def sp_lifted : L2.Sp := mkSp (ι := (q : Pm) × LiI q) (fun i X H vs => LfOk i.2.1 i.2.2.1 i.2.2.2 ∧ a3 (oN i.1.n) (oRows i.2.2.1) (oRow i.2.2.2) X H vs) (fun i => oRow (ledM i.2.2.2 i.2.2.1))
theorem ev_lifted {q : Pm} {n : Nat} {rows : List (List (Fq q))} {x : List (Fq q)} (ok : LfOk n rows x) (h1 : EvP ta σ X H (oN q.n)) (h2 : EvP tb σ X H (oRows rows)) (h3 : EvP tc σ X H (oRow x)) : EvP (tCall sp_lifted [] E0 (tCons ta (tCons tb (tCons tc tNil)))) σ X H (oRow (ledM x rows)) :=
  ev_call (⟨q, n, rows, x⟩ : (q : Pm) × LiI q) (EvA.pre ok (ea3 h1 h2 h3))
theorem zip_swap {α β γ : Type} (f : γ → α × β → γ) : ∀ (z : γ) (x : List α) (y : List β), (y.zip x).foldl (fun a p => f a (p.2, p.1)) z = (x.zip y).foldl f z
  | z, [], y => by simp
  | z, x :: xs, [] => by simp
  | z, x :: xs, y :: ys => zip_swap f _ xs ys
theorem c_lifted (T : Tp K mg) : Ct w K mg base 1 "lifted" sp_lifted := by
  refine ct_mk T (i := 46) (by decide) sc_lifted (fun _ _ _ _ _ _ us hl => match us, hl with | [_, _, _], _ => rfl) (mkSp_len fun i X H vs h => ?_) fun f cdv A outer s H vs Q E hr h => ?_
  · exact a3_len h.2
  · obtain ⟨⟨q, n, rows, x⟩, X, k, ⟨⟨hl, hrow, hne⟩, u1, u2, u3, rfl, h1, h2, h3⟩, post⟩ := h
    dsimp only at hl hrow hne h1 h2 h3 post
    have nd := sc_lifted.nd
    refine ⟨_, PSs.nox (pss_cons (ps_set (i := 3) nd rfl (.inl rfl) (pe_op op_rep (pe_lst (pa_cons pe_int pa_nil)) (pe_callB (call_lenK K) (by rfl) (T.fr "len" (by decide)) PySem.boot_len (pa_cons (pe_ix (ix_listK K) (pv 1) pe_int (fun _ _ => rfl)) pa_nil))))
  (pss_cons (ps_for PassesOwn.never rfl (pi_zipK K (by rfl) (T.fr "zip" (by decide)) (pa_cons (pv 1) (pa_cons (pv 2) pa_nil))) (pg_tup (by rfl) (pgs_cons (pg_name (i := 4) nd rfl (Or.inl rfl)) (pgs_cons (pg_name (i := 5) nd rfl (Or.inr rfl)) pgs_nil)))
    (pss_one (ps_setLc (i := 3) (own := [("number", 6), ("more", 7)]) (g := gTup K 2 (gCons (gName 6) (gCons (gName 7) gNil))) (tt := tYes) rfl nd rfl rfl (sw_true rfl rfl rfl (by decide +kernel)) (pi_zipK K (by rfl) (T.fr "zip" (by decide)) (pa_cons (pv 3) (pa_cons (pv 4) pa_nil))) (blkOk_by (N := N_lifted) (sc := (defScope (topS 46))) (by decide +kernel)) (fun _ _ _ _ _ => pg_tup (by rfl) (pgs_cons (pg_name (i := 6) nd rfl (Or.inl rfl)) (pgs_cons (pg_name (i := 7) nd rfl (Or.inl rfl)) pgs_nil))) (fun _ _ _ _ _ => pts_nil) (fun _ _ _ _ _ => pe_op op_modN (pe_op op_add (pv 6) (pe_op op_mul (pv 5) (pv 7))) (pv 0)))))
  (pss_one (ps_ret (pv 3))))), ?_⟩
    obtain ⟨r, hr⟩ : ∃ r, rows[0]? = some r := by
      cases rows with
      | nil => exact absurd rfl hne
      | cons r A => exact ⟨r, rfl⟩
    have er := hrow r (List.mem_of_getElem? hr)
    have e0 : rows.getD 0 [] = r := by rw [List.getD_eq_getElem?_getD, hr]; rfl
    have hn : n ≤ 5000 := by rw [← er]; exact oRows_row h2 (List.mem_of_getElem? hr)
    refine s_set k ((en_rep (R := fun a : Fq q => oF a) (x := 0) (n := r.length) ((en_one (R := fun a : Fq q => oF a) (ev_int.eq vl_0)).ev (by simp)) (ev_len (ev_ix (i := 0) (ev_var rfl h2) ev_nat hr)) (by omega)).ev (by rw [List.length_replicate]; omega)) fun H1 v s1 hv => ?_
    have k1 := k.same s1
    have l1 := Lt.of k s1
    refine s_for k1 (ei_zip (ev_var rfl (up l1 h2)) (ev_var rfl (up l1 h3)) hl.symm) fun H2 s2 l2 => ?_
    refine ⟨fun i σ1 H3 => (∃ z1 z2 vf, σ1 = [some u1, some u2, some u3, some vf, z1, z2, none, none] ∧ oRow (((rows.zip x).take i).foldl (fun f p => tkM f (0 - p.2) p.1) (List.replicate r.length 0)) X H3 vf) ∧ Same H H3 ∧ (((rows.zip x).take i).foldl (fun f p => tkM f (0 - p.2) p.1) (List.replicate r.length 0)).length = n, ⟨⟨none, none, v, rfl, by rw [List.take_zero]; exact up l2 hv⟩, s1.trans s2, by rw [List.take_zero]; simpa using er⟩, ?_, ?_⟩
    · rintro i o σ1 H3 H4 vo ho l3 ⟨⟨z1, z2, vf, rfl, hf⟩, sa, hfl⟩ s4 hvo
      have l4 := l3.same s4
      have lk := l1.trans (l2.trans l4)
      obtain ⟨a, b, ha, hb, tg⟩ := tg2 (K := K) (i := 4) (j := 5) (σ := [some u1, some u2, some u3, some vf, z1, z2, none, none]) hvo
      have ho2 := ho
      rw [List.getElem?_zip_eq_some] at ho2
      have hm := hrow _ (List.mem_of_getElem? ho2.1)
      have hf4 := rsm s4 hf
      generalize hg : (((rows.zip x).take i).foldl (fun f p => tkM f (0 - p.2) p.1) (List.replicate r.length 0)) = g at *
      refine tg _ ?_
      refine s_set1 l4.kn (((en_map (R' := fun x : Fq q => oF x) (fun p : Fq q × Fq q => p.1 - (0 - o.2) * p.2) (ei_zip (ev_var rfl hf4) (ev_var rfl ha) (by rw [hfl, hm])) (by rw [List.length_zip, hfl]; omega) fun p hp Y H6 v6 l6 rv => ?_).eq (show _ = tkM g (0 - o.2) o.1 from (zw_map (fun a b => a - (0 - o.2) * b) _ _).symm)).ev (by unfold tkM; rw [List.length_zipWith, hfl]; omega)) fun H6 v6 s6 o6 => ?_
      · obtain ⟨a2, b2, ha2, hb2, tg2⟩ := tg2 (K := K) (i := 6) (j := 7) (σ := [some u1, some u2, some u3, some vf, some a, some b, none, none]) rv
        refine ⟨_, tg2, rfl, ?_⟩
        refine ev_modF (i := vl p.1 + vl o.2 * vl p.2) (ev_I0 (ev_var rfl ha2) (ev_mulR (ev_var rfl (up l6 hb)) (ev_var rfl hb2) (vl_64 p.2))) (ev_var rfl (up (lk.trans l6) h1)) ?_
        rw [show vl p.1 + vl o.2 * vl p.2 = vl p.1 - (0 - vl o.2) * vl p.2 by rw [Int.sub_mul, Int.zero_mul]; omega, el_sub_mul, el_neg]
      · refine ⟨⟨⟨_, _, _, rfl, ?_⟩, (sa.trans s4).trans s6, ?_⟩, l4.same s6⟩
        · rw [take_fold _ _ ho, hg]
          exact o6
        · rw [take_fold _ _ ho, hg, tk_len (by rw [hfl, hm]), hfl]
    · rintro σ1 H3 l3 ⟨⟨z1, z2, vf, rfl, hf⟩, sa, _⟩
      rw [take_all] at hf
      refine s_ret l3.kn (ev_var rfl hf) fun H5 v5 s5 o5 => post H5 v5 (sa.trans s5) ?_
      unfold ledM
      rw [e0, ← zip_swap]
      exact o5
end
end Still

set_option Elab.async false
set_option linter.all false
set_option maxRecDepth 100000
set_option maxHeartbeats 4000000
namespace Still
open PySem PySem.Spec PyProof.Rows L2
section
variable {w : World} {K : PySem.W.Frag} {mg : Str → Option Value} {base : Heap}
variable {σ : L2.St} {X : AX} {H : Hp} {ta tb tc td te : TE}
/-! a promised one, taken apart within an expression -/
theorem ev_ex {α : Type} {R : α → Ob} {P : α → Prop} [∀ x, Rep (R x)] {O : Ob} {C : TE → TE} (hC : ∀ te σ H Q, C te σ H Q = te σ H fun v H1 => C (fun _ H' Q' => Q' v H') σ H1 Q) (h : EvP te σ X H (oEx R P)) (body : ∀ x, P x → ∀ Y H1 t2, Lt X H Y H1 → EvP t2 σ Y H1 (R x) → EvP (C t2) σ Y H1 O) : EvP (C te) σ X H O := fun Y H1 l Q q => by
  rw [hC]
  exact h Y H1 l _ fun H2 v s ⟨x, p, o⟩ => body x p Y H2 (fun _ H' Q' => Q' v H') (l.same s) (fun Z H3 k Q' q' => q' H3 v (Same.refl _) (Still.up k o)) Y H2 (Lt.refl (l.kn.same s)) Q fun H3 v3 s3 o3 => q H3 v3 (s.trans s3) o3
theorem ev_neg {i : Int} (h : EvP ta σ X H (oI i)) : EvP (tUn (rU fun i => .int (-i)) ta) σ X H (oI (-i)) := ev_un h fun Y H1 x l o Q q => ⟨i, o, q H1 _ (Same.refl _) rfl⟩
theorem ev_ixL {α : Type} {R : α → Ob} {xs : List α} {x : α} [∀ x, Rep (R x)] (h : EvP ta σ X H (oL R xs)) (hb : EvP tb σ X H (oI (-1))) (hx : xs[xs.length - 1]? = some x) : EvP (tOp (rIxL K) ta tb) σ X H (R x) := by
  refine ev_op h hb fun Y H1 u v l o e Q q => ?_
  have e : v = .int (-1) := e
  subst e
  obtain ⟨a, vs, rfl, n, e, it, b⟩ := o.its
  obtain ⟨u, e2, r⟩ := it.get hx
  refine ⟨a, vs, -1, u, rfl, rfl, .inl (.inl e), ?_, q H1 u (Same.refl _) r⟩
  have hp : 0 < vs.length := by have := (List.getElem?_eq_some_iff.mp e2).1; omega
  have hl := it.1
  unfold atI ixN
  rw [if_neg (by decide)]
  have h2 : (-1 : Int) + (vs.length : Int) = ((xs.length - 1 : Nat) : Int) := by omega
  simp [h2]
  first | exact e2 | (rw [if_pos (by omega)]; exact e2) | skip
/-- zip of a list and a shorter one -/
theorem ei_zipR {α β : Type} {R : α → Ob} {R' : β → Ob} {xs : List α} {ys : List β} [∀ x, Rep (R x)] [∀ x, Rep (R' x)] (h : EvP ta σ X H (oL R xs)) (h2 : EvP tb σ X H (oL R' ys)) (hl : ys.length ≤ xs.length) :
    EvI (iZip K (tCons ta (tCons tb tNil))) σ X H (fun p : α × β => oP (R p.1) (R' p.2)) (xs.zip ys) := fun Y H1 l Q q =>
  h Y H1 l _ fun H2 v s o => h2 Y H2 (l.same s) _ fun H3 w s2 o2 => by
    obtain ⟨a, vs, rfl, n, e, it, b⟩ := (Still.rsm s2 o).its
    obtain ⟨a2, vs2, rfl, n2, e2, it2, b2⟩ := o2.its
    have hz : (xs.zip ys).length = ys.length := by rw [List.length_zip]; omega
    refine ⟨a, a2, vs, vs2, rfl, .inl (.inl e), .inl (.inl e2), q _ H3 (s.trans s2) ⟨fun i Z H4 k hi => ?_, fun Z H4 k => ?_, fun i x Z H4 v H5 k hx y => ?_⟩⟩
    · rw [hz] at hi
      have h1 : i < vs.length := by rw [it.1]; omega
      have h2 : i < vs2.length := by rw [it2.1]; exact hi
      exact ⟨vs, vs2, _, _, .inl (.inl (k.go a _ n e).2), .inl (.inl (k.go a2 _ n2 e2).2), List.getElem?_eq_getElem h1, List.getElem?_eq_getElem h2⟩
    · exact ⟨vs, vs2, .inl (.inl (k.go a _ n e).2), .inl (.inl (k.go a2 _ n2 e2).2), .inr (by rw [it2.1, hz]; exact Nat.le_refl _)⟩
    · obtain ⟨T, x1, x2, rfl, nT, rfl, f1, f2⟩ := y
      have g1 := f1 vs (.inl (.inl (k.go a _ n e).2))
      have g2 := f2 vs2 (.inl (.inl (k.go a2 _ n2 e2).2))
      rw [List.getElem?_zip_eq_some] at hx
      have sT : Same H4 (upd H4 T (.tup [x1, x2])) := same_new nT
      exact ⟨sT, T, x1, x2, rfl, notKn k.kn nT, upd_same, Still.rsm sT ((it.up k).2 i x1 x.1 g1 hx.1), Still.rsm sT ((it2.up k).2 i x2 x.2 g2 hx.2)⟩
/-! plain facts on towers -/
section
variable {q : Pm} {n : Nat} {tabs : List (List (List (Fq q)))} {lower upper T : List (List (Fq q))} {fs : List (List (List (Fq q)))}
theorem cf_len (pos : 0 < n) (sq : ∀ A, A ∈ tabs → Sq n A) : ∀ {fs : List (List (List (Fq q)))} {l : List (List (Fq q))}, Lo n l → CF n tabs T l fs → fs.length + l.length ≤ T.length
  | [], l, _, h => by
    have h : l = T := h
    rw [h]; simp
  | f :: fs, l, hl, ⟨h1, h2, h3⟩ => by
    have := cf_len pos sq h1 h3
    have : SecS n tabs (l, f) := ⟨⟨pos, sq, hl, h1, h2.le, h2.lo, h2.hi⟩, h2⟩
    have := this.lt
    have : l.length < f.length := this
    rw [List.length_cons]
    omega
theorem sec_crA (ok : CrA n tabs) (S : Sec n tabs lower upper) (h : lower.length < upper.length) : CrA (betw lower upper).length (partM lower upper tabs) := by
  have hs := S.size
  have hn : upper.length ≤ n := by have := lo_len S.u.toPre; omega
  refine ⟨⟨⟨fun A hA => ?_, by omega, by have := ok.top; omega⟩, Nat.le_trans (Nat.pow_le_pow_right (by have := q.pos; omega) (by omega)) ok.bd⟩, by have := ok.six; omega, by unfold partM; rw [List.length_map]; exact ok.few⟩
  obtain ⟨B, hB, rfl⟩ := List.mem_map.mp hA
  exact S.part_sq
end
/-! def steps_between: slots 0=crew 1=lower 2=upper 3=here 4=found 5=rows 6=middle 7=shares -/
abbrev N_steps_between : List Str := ["crew", "lower", "upper", "here", "found", "rows", "middle", "shares"]
theorem sc_steps_between : FnScope N_steps_between ["crew", "lower", "upper"] (defScope (topS 47)) := ⟨rfl, rfl, rfl, by decide +kernel, rfl, by decide +kernel, by decide +kernel⟩
structure SbOk {q : Pm} (d n : Nat) (tabs : List (List (List (Fq q)))) (lower upper : List (List (Fq q))) : Prop where
  cr : CrA n tabs
  s : Sec n tabs lower upper
  ne : ∃ x, Spn upper x ∧ ¬ Spn lower x
  d : (betw lower upper).length ≤ d
def sp_steps_between (d : Nat) : L2.Sp := mkSp (ι := (q : Pm) × PbI q) (fun i X H vs => SbOk d i.2.1 i.2.2.1 i.2.2.2.1 i.2.2.2.2 ∧ a3 (oCrew i.2.1 i.2.2.1) (oRows i.2.2.2.1) (oRows i.2.2.2.2) X H vs) (fun i => oEx (fun fs : List (List (List (Fq i.1))) => oTabs fs) (CF i.2.1 i.2.2.1 i.2.2.2.2 i.2.2.2.1))
theorem ev_steps_between {q : Pm} {d n : Nat} {tabs : List (List (List (Fq q)))} {lower upper : List (List (Fq q))} (ok : SbOk d n tabs lower upper) (h1 : EvP ta σ X H (oCrew n tabs)) (h2 : EvP tb σ X H (oRows lower)) (h3 : EvP tc σ X H (oRows upper)) : EvP (tCall (sp_steps_between d) [] E0 (tCons ta (tCons tb (tCons tc tNil)))) σ X H (oEx (fun fs : List (List (List (Fq q))) => oTabs fs) (CF n tabs upper lower)) :=
  ev_call (⟨q, n, tabs, lower, upper⟩ : (q : Pm) × PbI q) (EvA.pre ok (ea3 h1 h2 h3))
theorem s_steps_between (c_part_between : Ct w K mg base 5 "part_between" sp_part_between) (c_still_span : Ct w K mg base 7 "still_span" sp_still_span) (c_rows_between : Ct w K mg base 2 "rows_between" sp_rows_between) (c_low : Ct w K mg base 5 "low" sp_low) (c_lifted : Ct w K mg base 1 "lifted" sp_lifted) (T : Tp K mg) (d : Nat) (c_steps_between : Ct w K mg base (d + 8) "steps_between" (sp_steps_between d)) : Ct w K mg base (d + 8 + 1) "steps_between" (sp_steps_between (d + 1)) := by
  refine ct_mk T (i := 47) (by decide) sc_steps_between (fun _ _ _ _ _ _ us hl => match us, hl with | [_, _, _], _ => rfl) (mkSp_len fun i X H vs h => ?_) fun f cdv A outer s H vs Q E hr h => ?_
  · exact a3_len h.2
  · obtain ⟨⟨q, n, tabs, lower, upper⟩, X, k, ⟨⟨ok, S, hne, hd⟩, u1, u2, u3, rfl, h1, h2, h3⟩, post⟩ := h
    dsimp only at ok S hne hd h1 h2 h3 post
    have nd := sc_steps_between.nd
    refine ⟨_, PSs.nox (pss_cons (ps_set (i := 3) nd rfl (.inl rfl) (pe_ct c_part_between hr (by omega) (by rfl) (pa_cons (pv 0) (pa_cons (pv 1) (pa_cons (pv 2) pa_nil)))))
  (pss_cons (ps_set (i := 4) nd rfl (.inl rfl) (pe_ct c_still_span hr (by omega) (by rfl) (pa_cons (pv 3) pa_nil)))
  (pss_cons (ps_if (pt_cmpR op_isN (pv 4) pe_non (nomark _))
    (pss_one (ps_ret (pe_lst (pa_cons (pv 2) pa_nil)))) pss_nil)
  (pss_cons (ps_set (i := 5) nd rfl (.inr rfl) (pe_ct c_rows_between hr (by omega) (by rfl) (pa_cons (pv 1) (pa_cons (pv 2) pa_nil))))
  (pss_cons (ps_set (i := 6) nd rfl (.inl rfl) (pe_ct c_low hr (by omega) (by rfl) (pa_cons (pe_ix (ix_tupK K) (pv 0) pe_int (fun _ _ => rfl)) (pa_cons (pe_op op_cat (pv 1) (pe_lc (own := [("shares", 7)]) (g := gName 7) (tt := tYes) rfl nd (pi_listK K (pv 4)) (blkOk_by (N := N_steps_between) (sc := (defScope (topS 47))) (by decide +kernel)) (fun _ _ _ _ _ => pg_name (i := 7) nd rfl (Or.inl rfl)) (fun _ _ _ _ _ => pts_nil) (fun _ _ _ _ _ => pe_ct c_lifted hr (by omega) (by rfl) (pa_cons (pe_ix (ix_tupK K) (pv 0) pe_int (fun _ _ => rfl)) (pa_cons (pv 5) (pa_cons (pv 7) pa_nil)))))) pa_nil))))
  (pss_one (ps_ret (pe_op op_cat (pe_ct c_steps_between hr (by omega) (by rfl) (pa_cons (pv 0) (pa_cons (pv 1) (pa_cons (pv 6) pa_nil)))) (pe_ct c_steps_between hr (by omega) (by rfl) (pa_cons (pv 0) (pa_cons (pv 6) (pa_cons (pv 2) pa_nil)))))))))))), ?_⟩
    have hsz := S.size
    have hlt := sec_lt S hne
    have hn : upper.length ≤ n := lo_len S.u.toPre
    have hn6 := ok.six
    refine s_set k (ev_part_between ⟨ok.toCrOk, S.l.toPre, S.u.toPre⟩ (ev_var rfl h1) (ev_var rfl h2) (ev_var rfl h3)) fun H1 v1 s1 o1 => ?_
    have k1 := k.same s1
    refine s_set k1 (ev_still_span (sec_crA ok S hlt).toCrB (ev_var rfl o1)) fun H2 v2 s2 ⟨o, hs, o2⟩ => ?_
    have k2 := k1.same s2
    have sb := s1.trans s2
    cases o with
    | none =>
      refine s_if k2 (et_test (ev_isNone (o := (none : Option (List (List (Fq q))))) (R := fun f => oRows f) (fun x X H => oL_non x X H) (ev_var rfl o2))) (fun _ H3 s3 => ?_) (fun hb => by simp at hb)
      refine s_ret (k2.same s3) ((en_one (R := fun f : List (List (Fq q)) => oRows f) (ev_var rfl (rsm (sb.trans s3) h3))).ev (by simp)) fun H4 v4 s4 o4 => post H4 v4 ((sb.trans s3).trans s4) ⟨[upper], ⟨S.u, S.simp ((stsp_none hs).mp rfl) hne, rfl⟩, o4⟩
    | some f =>
      obtain ⟨Sa, Sb, na, nb⟩ := mid_ok S hs
      refine s_if k2 (et_test (ev_isNone (o := some f) (R := fun f => oRows f) (fun x X H => oL_non x X H) (ev_var rfl o2))) (fun hb => by simp at hb) fun _ H3 s3 => ?_
      have k3 := k2.same s3
      have sc := sb.trans s3
      have o3 : oRows f X H3 v2 := rsm s3 o2
      have hB : betw lower upper ≠ [] := fun z => by rw [z] at hsz; simp at hsz; omega
      have hf := hs.1
      refine s_set k3 (ev_rows_between ⟨S.l.toPre, S.u.toPre⟩ (ev_var rfl (rsm sc h2)) (ev_var rfl (rsm sc h3))) fun H4 v4 s4 o4 => ?_
      have k4 := k3.same s4
      have sd := sc.trans s4
      have o3b := rsm s4 o3
      have hrows : ∀ r, r ∈ lower ++ f.map (fun s => ledM s (betw lower upper)) → r.length = n := fun r hr => by
        rcases List.mem_append.mp hr with hr | hr
        · exact S.l.row r hr
        · obtain ⟨s, hs, rfl⟩ := List.mem_map.mp hr
          exact (led_ok (hf.row s hs) (fun r hr => S.blen hr) hB).1
      refine s_set k4 (ev_low hrows (ev_t0 (ev_var rfl (rsm sd h1))) ((en_cat (ev_var rfl (rsm sd h2)) ((en_map (R' := fun r : List (Fq q) => oRow r) (fun s => ledM s (betw lower upper)) (ei_list (ev_var rfl o3b)) (oL_len o3b) fun s hsf Y H5 v5 l5 rv => ⟨_, tg1, rfl, ev_lifted ⟨hf.row s hsf, fun r hr => S.blen hr, hB⟩ (ev_t0 (ev_var rfl (up l5 (rsm sd h1)))) (ev_var rfl (up l5 o4)) (ev_var rfl rv)⟩).ev (by rw [List.length_map]; exact oL_len o3b))).ev (by rw [List.length_append, List.length_map]; have := oL_len o3b; have := lo_len hf.toPre; omega))) fun H5 v5 s5 o5 => ?_
      have k5 := k4.same s5
      have se := sd.trans s5
      have o5 : oRows (midM lower upper f) X H5 v5 := o5
      have za := Sa.size
      have zb := Sb.size
      have la := sec_lt Sa na
      have lb := sec_lt Sb nb
      refine s_ret k5 (ev_ex (C := fun t => tOp rCat t _) (fun _ _ _ _ => rfl) (ev_steps_between ⟨ok, Sa, na, by omega⟩ (ev_var rfl (rsm se h1)) (ev_var rfl (rsm se h2)) (ev_var rfl o5)) fun fa ha Y H6 t2 l6 e2 => ?_) fun H7 v7 s7 o7 => post H7 v7 (se.trans s7) o7
      refine fun Z H7 l7 Q hq => e2 Z H7 l7 _ fun H8 v8 s8 o8 => (ev_steps_between ⟨ok, Sb, nb, by omega⟩ (ev_var rfl (rsm se h1)) (ev_var rfl o5) (ev_var rfl (rsm se h3))) Z H8 ((l6.trans l7).same s8) _ fun H9 v9 s9 ⟨fb, hb, o9⟩ => ?_
      have cf := CF.append ha hb
      have hl := cf_len ok.pos ok.sq S.l cf
      obtain ⟨A1, xs, rfl, nA, eA, iA, bA⟩ := (rsm s9 o8).its
      obtain ⟨B1, ys, rfl, nB, eB, iB, bB⟩ := o9.its
      have it := iA.append iB
      exact ((en_cat (σ := start N_steps_between [u1, u2, u3]) (R := fun f : List (List (Fq q)) => oRows f) (ta := fun _ H' Q' => Q' (.ref A1) H') (tb := fun _ H' Q' => Q' (.ref B1) H') (fun Y2 H2 l2 Q2 q2 => q2 H2 _ (Same.refl _) (up l2 (rsm s9 o8))) (fun Y2 H2 l2 Q2 q2 => q2 H2 _ (Same.refl _) (up l2 o9))).ev (by omega)) Z H9 (Lt.refl (((l6.trans l7).same s8).same s9).kn) Q fun H10 v10 s10 o10 => hq H10 v10 ((s8.trans s9).trans s10) ⟨_, cf, o10⟩
theorem z_steps_between (T : Tp K mg) : Ct w K mg base 8 "steps_between" (sp_steps_between 0) := by
  refine ct_mk T (i := 47) (by decide) sc_steps_between (fun _ _ _ _ _ _ us hl => match us, hl with | [_, _, _], _ => rfl) (mkSp_len fun i X H vs h => ?_) fun f cdv A outer s H vs Q E hr h => ?_
  · exact a3_len h.2
  · exfalso
    obtain ⟨⟨q, n, tabs, lower, upper⟩, X, k, ⟨⟨ok, S, hne, hd⟩, u1, u2, u3, rfl, h1, h2, h3⟩, post⟩ := h
    dsimp only at ok S hne hd
    have hsz := S.size
    have hlt := sec_lt S hne
    omega
theorem c_steps_between (c_part_between : Ct w K mg base 5 "part_between" sp_part_between) (c_still_span : Ct w K mg base 7 "still_span" sp_still_span) (c_rows_between : Ct w K mg base 2 "rows_between" sp_rows_between) (c_low : Ct w K mg base 5 "low" sp_low) (c_lifted : Ct w K mg base 1 "lifted" sp_lifted) (T : Tp K mg) : ∀ d : Nat, Ct w K mg base (d + 8) "steps_between" (sp_steps_between d)
  | d + 1 => s_steps_between c_part_between c_still_span c_rows_between c_low c_lifted T d (c_steps_between c_part_between c_still_span c_rows_between c_low c_lifted T d)
  | 0 => z_steps_between T
/-! def copied: slots 0=form 1=row -/
abbrev N_copied : List Str := ["form", "row"]
theorem sc_copied : FnScope N_copied ["form"] (defScope (topS 48)) := ⟨rfl, rfl, rfl, by decide +kernel, rfl, by decide +kernel, by decide +kernel⟩
def sp_copied : L2.Sp := mkSp (ι := (q : Pm) × List (List (Fq q))) (fun i X H vs => a1 (oRows i.2) X H vs) (fun i => oRows i.2)
theorem ev_copied {q : Pm} {form : List (List (Fq q))} (h1 : EvP ta σ X H (oRows form)) : EvP (tCall sp_copied [] E0 (tCons ta tNil)) σ X H (oRows form) :=
  ev_call (⟨q, form⟩ : (q : Pm) × List (List (Fq q))) (ea1 h1)
theorem c_copied (T : Tp K mg) : Ct w K mg base 1 "copied" sp_copied := by
  refine ct_mk T (i := 48) (by decide) sc_copied (fun _ _ _ _ _ _ us hl => match us, hl with | [_], _ => rfl) (mkSp_len fun i X H vs h => ?_) fun f cdv A outer s H vs Q E hr h => ?_
  · exact a1_len h
  · obtain ⟨⟨q, form⟩, X, k, ⟨u1, rfl, h1⟩, post⟩ := h
    dsimp only at h1 post
    have nd := sc_copied.nd
    refine ⟨_, PSs.nox (pss_one (ps_ret (pe_lc (own := [("row", 1)]) (g := gName 1) (tt := tYes) rfl nd (pi_listK K (pv 0)) (blkOk_by (N := N_copied) (sc := (defScope (topS 48))) (by decide +kernel)) (fun _ _ _ _ _ => pg_name (i := 1) nd rfl (Or.inl rfl)) (fun _ _ _ _ _ => pts_nil) (fun _ _ _ _ _ => pe_callTy (call_listK K) (by rfl) (T.fr "list" (by decide)) (by decide +kernel) (pa_cons (pv 1) pa_nil))))), ?_⟩
    exact s_ret k (((en_map (R' := fun r : List (Fq q) => oRow r) (fun r => r) (ei_list (ev_var rfl h1)) (oL_len h1) fun o ho Y H5 v5 l5 rv => ⟨_, tg1, rfl, (en_list (ev_var rfl rv)).ev (oL_len rv)⟩).eq (List.map_id' _)).ev (oL_len h1)) fun H5 v5 s5 o5 => post H5 v5 s5 o5
/-! def tower: slots 0=crew 1=form -/
abbrev N_tower : List Str := ["crew", "form"]
theorem sc_tower : FnScope N_tower ["crew"] (defScope (topS 49)) := ⟨rfl, rfl, rfl, by decide +kernel, rfl, by decide +kernel, by decide +kernel⟩
def sp_tower : L2.Sp := mkSp (ι := (q : Pm) × Nat × List (List (List (Fq q)))) (fun i X H vs => CrA i.2.1 i.2.2 ∧ a1 (oCrew i.2.1 i.2.2) X H vs) (fun i => oEx (fun fs : List (List (List (Fq i.1))) => oTabs fs) (Tw i.2.1 i.2.2))
theorem ev_tower {q : Pm} {n : Nat} {tabs : List (List (List (Fq q)))} (hp : CrA n tabs) (h1 : EvP ta σ X H (oCrew n tabs)) : EvP (tCall sp_tower [] E0 (tCons ta tNil)) σ X H (oEx (fun fs : List (List (List (Fq q))) => oTabs fs) (Tw n tabs)) :=
  ev_call (⟨q, n, tabs⟩ : (q : Pm) × Nat × List (List (List (Fq q)))) (EvA.pre hp (ea1 h1))
theorem c_tower (c_steps_between : Ct w K mg base 14 "steps_between" (sp_steps_between 6)) (c_plain : Ct w K mg base 1 "plain" sp_plain) (c_copied : Ct w K mg base 1 "copied" sp_copied) (T : Tp K mg) : Ct w K mg base 15 "tower" sp_tower := by
  refine ct_mk T (i := 49) (by decide) sc_tower (fun _ _ _ _ _ _ us hl => match us, hl with | [_], _ => rfl) (mkSp_len fun i X H vs h => ?_) fun f cdv A outer s H vs Q E hr h => ?_
  · exact a1_len h.2
  · obtain ⟨⟨q, n, tabs⟩, X, k, ⟨ok, u1, rfl, h1⟩, post⟩ := h
    dsimp only at ok h1 post
    have nd := sc_tower.nd
    refine ⟨_, PSs.nox (pss_one (ps_ret (pe_lc (own := [("form", 1)]) (g := gName 1) (tt := tYes) rfl nd (pi_listK K (pe_ct c_steps_between hr (by decide) (by rfl) (pa_cons (pv 0) (pa_cons (pe_lst pa_nil) (pa_cons (pe_ct c_plain hr (by decide) (by rfl) (pa_cons (pe_ix (ix_tupK K) (pv 0) pe_int (fun _ _ => rfl)) pa_nil)) pa_nil))))) (blkOk_by (N := N_tower) (sc := (defScope (topS 49))) (by decide +kernel)) (fun _ _ _ _ _ => pg_name (i := 1) nd rfl (Or.inl rfl)) (fun _ _ _ _ _ => pts_nil) (fun _ _ _ _ _ => pe_ct c_copied hr (by decide) (by rfl) (pa_cons (pv 1) pa_nil))))), ?_⟩
    obtain ⟨S, hne⟩ := sec_top (F := Fq q) ok.pos ok.sq
    have hn6 := ok.six
    have hsz := S.size
    rw [plain_len] at hsz
    simp only [List.length_nil] at hsz
    refine s_ret k (ev_ex (O := oEx (fun fs : List (List (List (Fq q))) => oTabs fs) (Tw n tabs)) (C := fun t => tLc (iList K t) _ tYes _ _) (fun _ _ _ _ => rfl) (ev_steps_between (d := 6) ⟨ok, S, hne, by omega⟩ (ev_var rfl h1) ((en_nil (R := fun r : List (Fq q) => oRow r)).ev (by simp)) (ev_plain (by omega) (ev_t1 (ev_var rfl h1)))) fun fs hf Y H6 t2 l6 e2 => ?_) fun H5 v5 s5 o5 => post H5 v5 s5 o5
    have hl := cf_len ok.pos ok.sq Lo.nil hf
    rw [plain_len] at hl
    refine (((en_map (R' := fun f : List (List (Fq q)) => oRows f) (fun r => r) (ei_list e2) (by omega) fun o ho Y H5 v5 l5 rv => ⟨_, tg1, rfl, ev_copied (ev_var rfl rv)⟩).eq (List.map_id' _)).ev (by omega)).imp fun Y3 H3 v3 l3 o3 => ⟨fs, hf, o3⟩
/-! def parts_of: slots 0=crew 1=some 2=lower 3=upper -/
abbrev N_parts_of : List Str := ["crew", "some", "lower", "upper"]
theorem sc_parts_of : FnScope N_parts_of ["crew", "some"] (defScope (topS 50)) := ⟨rfl, rfl, rfl, by decide +kernel, rfl, by decide +kernel, by decide +kernel⟩
structure TwOk {q : Pm} (n : Nat) (tabs fs : List (List (List (Fq q)))) : Prop where
  cr : CrA n tabs
  tw : Tw n tabs fs
abbrev TwI (q : Pm) : Type := Nat × List (List (List (Fq q))) × List (List (List (Fq q)))
abbrev Cw (q : Pm) : Type := Nat × List (List (List (Fq q)))
def oCw {q : Pm} (c : Cw q) : Ob := oCrew c.1 c.2
instance {q : Pm} (c : Cw q) : Rep (oCw c) := inferInstanceAs (Rep (oCrew c.1 c.2))
def prt {q : Pm} (tabs : List (List (List (Fq q)))) (p : List (List (Fq q)) × List (List (Fq q))) : Cw q := ((betw p.1 p.2).length, partM p.1 p.2 tabs)
def prts {q : Pm} (tabs fs : List (List (List (Fq q)))) : List (Cw q) := (secF [] fs).map (prt tabs)
def sp_parts_of : L2.Sp := mkSp (ι := (q : Pm) × TwI q) (fun i X H vs => TwOk i.2.1 i.2.2.1 i.2.2.2 ∧ a2 (oCrew i.2.1 i.2.2.1) (oTabs i.2.2.2) X H vs) (fun i => oL oCw (prts i.2.2.1 i.2.2.2))
theorem ev_parts_of {q : Pm} {n : Nat} {tabs fs : List (List (List (Fq q)))} (ok : TwOk n tabs fs) (h1 : EvP ta σ X H (oCrew n tabs)) (h2 : EvP tb σ X H (oTabs fs)) : EvP (tCall sp_parts_of [] E0 (tCons ta (tCons tb tNil))) σ X H (oL oCw (prts tabs fs)) :=
  ev_call (⟨q, n, tabs, fs⟩ : (q : Pm) × TwI q) (EvA.pre ok (ea2 h1 h2))
theorem c_parts_of (c_part_between : Ct w K mg base 5 "part_between" sp_part_between) (T : Tp K mg) : Ct w K mg base 6 "parts_of" sp_parts_of := by
  refine ct_mk T (i := 50) (by decide) sc_parts_of (fun _ _ _ _ _ _ us hl => match us, hl with | [_, _], _ => rfl) (mkSp_len fun i X H vs h => ?_) fun f cdv A outer s H vs Q E hr h => ?_
  · exact a2_len h.2
  · obtain ⟨⟨q, n, tabs, fs⟩, X, k, ⟨⟨ok, tw⟩, u1, u2, rfl, h1, h2⟩, post⟩ := h
    dsimp only at ok tw h1 h2 post
    have nd := sc_parts_of.nd
    refine ⟨_, PSs.nox (pss_one (ps_ret (pe_lc (own := [("lower", 2), ("upper", 3)]) (g := gTup K 2 (gCons (gName 2) (gCons (gName 3) gNil))) (tt := tYes) rfl nd (pi_zipK K (by rfl) (T.fr "zip" (by decide)) (pa_cons (pe_op op_cat (pe_lst (pa_cons (pe_lst pa_nil) pa_nil)) (pe_slice (sl_listK K) (pv 1) po_none (po_some (pe_un un_neg pe_int)))) (pa_cons (pv 1) pa_nil))) (blkOk_by (N := N_parts_of) (sc := (defScope (topS 50))) (by decide +kernel)) (fun _ _ _ _ _ => pg_tup (by rfl) (pgs_cons (pg_name (i := 2) nd rfl (Or.inl rfl)) (pgs_cons (pg_name (i := 3) nd rfl (Or.inl rfl)) pgs_nil))) (fun _ _ _ _ _ => pts_nil) (fun _ _ _ _ _ => pe_ct c_part_between hr (by decide) (by rfl) (pa_cons (pv 0) (pa_cons (pv 2) (pa_cons (pv 3) pa_nil))))))), ?_⟩
    have hne := tw_ne ok.pos tw
    have hfl := oL_len h2
    have hpos := List.length_pos_iff.mpr hne
    have hz := secF_zip fs ([] : List (List (Fq q)))
    have hln : ([] :: fs.dropLast).length = fs.length := by rw [List.length_cons, List.length_dropLast]; omega
    refine s_ret k (((en_map (R' := fun c : Cw q => oCw c) (prt tabs) (ei_zip ((en_cat (R := fun f : List (List (Fq q)) => oRows f) ((en_one (R := fun f : List (List (Fq q)) => oRows f) ((en_nil (R := fun r : List (Fq q) => oRow r)).ev (by simp))).ev (by simp)) ((((en_slice (R := fun f : List (List (Fq q)) => oRows f) (ev_var rfl h2) eo_none (eo_some (ev_neg ev_int))).eq (cut_last fs)).ev (by rw [List.length_dropLast]; omega)))).ev (by show ([] :: fs.dropLast).length ≤ 5000; omega)) (ev_var rfl h2) hln) (by rw [List.length_zip]; omega) fun p hp Y H5 v5 l5 rv => ?_).eq (show _ = prts tabs fs by unfold prts; rw [hz]; rfl)).ev (by unfold prts; rw [List.length_map, hz, List.length_zip]; omega)) fun H5 v5 s5 o5 => post H5 v5 s5 o5
    have hs := CF.sec ok.pos ok.sq Lo.nil tw p (by rw [hz]; exact hp)
    obtain ⟨a, b, ha, hb, tg⟩ := tg2 (K := K) (i := 2) (j := 3) (σ := wipe (start N_parts_of [u1, u2]) [2, 3]) rv
    exact ⟨_, tg, rfl, ev_part_between ⟨ok.toCrOk, hs.l.toPre, hs.u.toPre⟩ (ev_var rfl (up l5 h1)) (ev_var rfl ha) (ev_var rfl hb)⟩
/-! def is_form_of: slots 0=crew 1=thing -/
abbrev N_is_form_of : List Str := ["crew", "thing"]
theorem sc_is_form_of : FnScope N_is_form_of ["crew", "thing"] (defScope (topS 51)) := ⟨rfl, rfl, rfl, by decide +kernel, rfl, by decide +kernel, by decide +kernel⟩
structure FoOk {q : Pm} (n : Nat) (tabs : List (List (List (Fq q)))) (form : List (List (Fq q))) : Prop where
  cr : CrA n tabs
  lo : Lo n form
  ne : form ≠ []
abbrev FoI (q : Pm) : Type := Nat × List (List (List (Fq q))) × List (List (Fq q))
def sp_is_form_of : L2.Sp := mkSp (ι := (q : Pm) × FoI q) (fun i X H vs => FoOk i.2.1 i.2.2.1 i.2.2.2 ∧ a2 (oCrew i.2.1 i.2.2.1) (oRows i.2.2.2) X H vs) (fun i => oB true)
theorem ev_is_form_of {q : Pm} {n : Nat} {tabs : List (List (List (Fq q)))} {form : List (List (Fq q))} (ok : FoOk n tabs form) (h1 : EvP ta σ X H (oCrew n tabs)) (h2 : EvP tb σ X H (oRows form)) : EvP (tCall sp_is_form_of [] E0 (tCons ta (tCons tb tNil))) σ X H (oB true) :=
  ev_call (⟨q, n, tabs, form⟩ : (q : Pm) × FoI q) (EvA.pre ok (ea2 h1 h2))
theorem c_is_form_of (c_is_low : Ct w K mg base 6 "is_low" sp_is_low) (T : Tp K mg) : Ct w K mg base 7 "is_form_of" sp_is_form_of := by
  refine ct_mk T (i := 51) (by decide) sc_is_form_of (fun _ _ _ _ _ _ us hl => match us, hl with | [_, _], _ => rfl) (mkSp_len fun i X H vs h => ?_) fun f cdv A outer s H vs Q E hr h => ?_
  · exact a2_len h.2
  · obtain ⟨⟨q, n, tabs, form⟩, X, k, ⟨⟨ok, lo, ne⟩, u1, u2, rfl, h1, h2⟩, post⟩ := h
    dsimp only at ok lo ne h1 h2 post
    have nd := sc_is_form_of.nd
    refine ⟨_, PSs.nox (pss_one (ps_ret (pe_and (pe_ct c_is_low hr (by decide) (by rfl) (pa_cons (pe_ix (ix_tupK K) (pv 0) pe_int (fun _ _ => rfl)) (pa_cons (pv 1) pa_nil))) (pe_and (pe_cmpR op_gt (pe_callB (call_lenK K) (by rfl) (T.fr "len" (by decide)) PySem.boot_len (pa_cons (pv 1) pa_nil)) pe_int (nomark _)) (pe_one (pe_cmpR op_eq (pe_callB (call_lenK K) (by rfl) (T.fr "len" (by decide)) PySem.boot_len (pa_cons (pe_ix (ix_listK K) (pv 1) pe_int (fun _ _ => rfl)) pa_nil)) (pe_ix (ix_tupK K) (pv 0) pe_int (fun _ _ => rfl)) (nomark _))))))), ?_⟩
    obtain ⟨r, hr⟩ : ∃ r, form[0]? = some r := by
      cases form with
      | nil => exact absurd rfl ne
      | cons r A => exact ⟨r, rfl⟩
    have er := lo.row r (List.mem_of_getElem? hr)
    refine s_ret k (ev_andV (ev_is_low (n := n) ⟨lo, ok.pos, ok.top⟩ (ev_t0 (ev_var rfl h1)) (ev_var rfl h2)) fun _ => ev_andV (ev_I0 (ev_len (ev_var rfl h2)) ev_int) fun _ => ev_eq (ev_len (ev_ix (i := 0) (ev_var rfl h2) ev_nat hr)) (ev_t1 (ev_var rfl h1)) rfl) fun H5 v5 s5 o5 => post H5 v5 s5 ?_
    have hp := List.length_pos_iff.mpr ne
    rw [dec_nat, decide_eq_true er, Bool.and_true, Bool.true_and, decide_eq_true (by omega)] at o5
    exact o5
end
end Still

set_option Elab.async false
set_option linter.all false
set_option maxRecDepth 100000
set_option maxHeartbeats 4000000
namespace Still
open PySem PySem.Spec PyProof.Rows L2
section
variable {w : World} {K : PySem.W.Frag} {mg : Str → Option Value} {base : Heap}
variable {σ : L2.St} {X : AX} {H : Hp} {ta tb tc td te : TE}
/-! plain facts -/
section
variable {q : Pm} {n : Nat} {tabs : List (List (List (Fq q)))} {T : List (List (Fq q))}
theorem cf_mem (pos : 0 < n) (sq : ∀ A, A ∈ tabs → Sq n A) {fs : List (List (List (Fq q)))} {l : List (List (Fq q))} (hl : Lo n l) (h : CF n tabs T l fs) {f : List (List (Fq q))} (hf : f ∈ fs) : ∃ p, SecS n tabs p ∧ p.2 = f := by
  induction fs generalizing l with
  | nil => simp at hf
  | cons g gs ih =>
    obtain ⟨h1, h2, h3⟩ := h
    rcases List.mem_cons.mp hf with rfl | hf
    · exact ⟨(l, f), ⟨⟨pos, sq, hl, h1, h2.le, h2.lo, h2.hi⟩, h2⟩, rfl⟩
    · exact ih h1 h3 hf
theorem cf_last : ∀ {fs : List (List (List (Fq q)))} {l : List (List (Fq q))}, CF n tabs T l fs → fs ≠ [] → fs[fs.length - 1]? = some T
  | [], _, _, h => absurd rfl h
  | [f], _, ⟨_, _, h⟩, _ => by
    have h : f = T := h
    rw [h]; rfl
  | f :: g :: r, _, ⟨_, _, h⟩, _ => by
    have := cf_last h (by simp)
    exact this
theorem zip_sec : ∀ (fs : List (List (List (Fq q)))) (f : List (List (Fq q))), (f :: fs).zip fs = secF f fs
  | [], f => rfl
  | g :: r, f => by
    show (f, g) :: (g :: r).zip r = (f, g) :: secF g r
    rw [zip_sec r g]
theorem sec_drop {fs : List (List (List (Fq q)))} {p : List (List (Fq q)) × List (List (Fq q))} {l : List (List (Fq q))} (h : p ∈ fs.zip (fs.drop 1)) : p ∈ secF l fs := by
  cases fs with
  | nil => simp at h
  | cons f fs =>
    rw [List.drop_one, List.tail_cons, zip_sec] at h
    exact List.mem_cons_of_mem _ h
theorem secF_len : ∀ (fs : List (List (List (Fq q)))) (l : List (List (Fq q))), (secF l fs).length = fs.length
  | [], _ => rfl
  | f :: fs, _ => by
    show (secF f fs).length + 1 = fs.length + 1
    rw [secF_len fs f]
def alk (a b : Cw q) : Prop := a.1 = b.1 ∧ baseF a.1 b.1 a.2 b.2 ≠ []
theorem alk_al {p r : List (List (Fq q)) × List (List (Fq q))} (h : SecS n tabs p) (k : SecS n tabs r) : alk (prt tabs p) (prt tabs r) ↔ Al tabs p r := by
  rw [h.al k]
  unfold alk prt
  rw [base_iff]
  have hz : (partM p.1 p.2 tabs).zip (partM r.1 r.2 tabs) = tabs.map fun A => (part1 p.1 p.2 A, part1 r.1 r.2 A) := by
    unfold partM
    rw [List.zip_map']
  dsimp only
  rw [hz]
  constructor
  · rintro ⟨e, t, h1, h2, h3⟩
    exact ⟨e, t, h1, h2, fun A hA => h3 _ (List.mem_map_of_mem (f := fun A => (part1 p.1 p.2 A, part1 r.1 r.2 A)) hA)⟩
  · rintro ⟨e, t, h1, h2, h3⟩
    refine ⟨e, t, h1, h2, fun x hx => ?_⟩
    obtain ⟨A, hA, rfl⟩ := List.mem_map.mp hx
    exact h3 A hA
theorem at_first {k : Nat} : ∀ {l : List Nat}, k ∈ l → ∃ j, l[j]? = some k ∧ (∀ m, m < j → l[m]? ≠ some k) ∧ l.eraseIdx j = l.erase k
  | [], h => by simp at h
  | a :: l, h => by
    by_cases e : a = k
    · exact ⟨0, by rw [e]; rfl, fun m hm => by omega, by rw [e]; simp⟩
    · obtain ⟨j, h1, h2, h3⟩ := at_first (l := l) (by rcases List.mem_cons.mp h with h | h; exact absurd h.symm e; exact h)
      refine ⟨j + 1, h1, fun m hm => ?_, ?_⟩
      · cases m with
        | zero => exact fun z => e (by simpa using z)
        | succ m => exact h2 m (by omega)
      · rw [List.eraseIdx_cons_succ, h3, List.erase_cons_tail (by simpa using e)]
end
/-! def is_tower: slots 0=crew 1=thing 2=lower 3=upper 4=form 5=one -/
abbrev N_is_tower : List Str := ["crew", "thing", "lower", "upper", "form", "one"]
theorem sc_is_tower : FnScope N_is_tower ["crew", "thing"] (defScope (topS 52)) := ⟨rfl, rfl, rfl, by decide +kernel, rfl, by decide +kernel, by decide +kernel⟩
def sp_is_tower : L2.Sp := mkSp (ι := (q : Pm) × TwI q) (fun i X H vs => TwOk i.2.1 i.2.2.1 i.2.2.2 ∧ a2 (oCrew i.2.1 i.2.2.1) (oTabs i.2.2.2) X H vs) (fun i => oB true)
theorem ev_is_tower {q : Pm} {n : Nat} {tabs fs : List (List (List (Fq q)))} (ok : TwOk n tabs fs) (h1 : EvP ta σ X H (oCrew n tabs)) (h2 : EvP tb σ X H (oTabs fs)) : EvP (tCall sp_is_tower [] E0 (tCons ta (tCons tb tNil))) σ X H (oB true) :=
  ev_call (⟨q, n, tabs, fs⟩ : (q : Pm) × TwI q) (EvA.pre ok (ea2 h1 h2))
theorem all_true {α : Type} (xs : List α) : (xs.all fun _ => true) = true := by
  rw [List.all_eq_true]
  intro _ _
  rfl
theorem c_is_tower (c_is_form_of : Ct w K mg base 7 "is_form_of" sp_is_form_of) (c_plain : Ct w K mg base 1 "plain" sp_plain) (c_is_still : Ct w K mg base 5 "is_still" sp_is_still) (c_is_within : Ct w K mg base 5 "is_within" sp_is_within) (c_is_tight : Ct w K mg base 8 "is_tight" sp_is_tight) (c_parts_of : Ct w K mg base 6 "parts_of" sp_parts_of) (T : Tp K mg) : Ct w K mg base 9 "is_tower" sp_is_tower := by
  refine ct_mk T (i := 52) (by decide) sc_is_tower (fun _ _ _ _ _ _ us hl => match us, hl with | [_, _], _ => rfl) (mkSp_len fun i X H vs h => ?_) fun f cdv A outer s H vs Q E hr h => ?_
  · exact a2_len h.2
  · obtain ⟨⟨q, n, tabs, fs⟩, X, k, ⟨⟨ok, tw⟩, u1, u2, rfl, h1, h2⟩, post⟩ := h
    dsimp only at ok tw h1 h2 post
    have nd := sc_is_tower.nd
    refine ⟨_, PSs.nox (pss_cons (ps_if (PW.pt (pw_or (pt_not (pt_val (pe_callB (call_isiK2 K) (by rfl) (T.fr "isinstance" (by decide)) (by decide +kernel) (pa_cons (pv 1) (pa_cons (pe_bltn (v := .ty "list") (by rfl) (T.fr "list" (by decide)) (by decide +kernel) rfl) pa_nil))))) (pw_or (pt_cmpR op_eq (pe_callB (call_lenK K) (by rfl) (T.fr "len" (by decide)) PySem.boot_len (pa_cons (pv 1) pa_nil)) pe_int (nomark _)) (pw_or1 (pt_not (pt_val (pe_callB (cr_allK K rfl) (by rfl) (T.fr "all" (by decide)) (by decide +kernel) (pa_cons (pe_lc (own := [("form", 4)]) (g := gName 4) (tt := tYes) rfl nd (pi_listK K (pv 1)) (blkOk_by (N := N_is_tower) (sc := (defScope (topS 52))) (by decide +kernel)) (fun _ _ _ _ _ => pg_name (i := 4) nd rfl (Or.inl rfl)) (fun _ _ _ _ _ => pts_nil) (fun _ _ _ _ _ => pe_ct c_is_form_of hr (by decide) (by rfl) (pa_cons (pv 0) (pa_cons (pv 4) pa_nil)))) pa_nil))))))))
    (pss_one (ps_ret pe_bl)) pss_nil)
  (pss_cons (ps_if (PW.pt (pw_or (pt_cmpR (op_neDK K hr.units) (pe_ix (ix_listK K) (pv 1) (pe_un un_neg pe_int) (fun _ _ => rfl)) (pe_ct c_plain hr (by decide) (by rfl) (pa_cons (pe_ix (ix_tupK K) (pv 0) pe_int (fun _ _ => rfl)) pa_nil)) (nomark _)) (pw_or1 (pt_not (pt_val (pe_callB (cr_allK K rfl) (by rfl) (T.fr "all" (by decide)) (by decide +kernel) (pa_cons (pe_lc (own := [("form", 4)]) (g := gName 4) (tt := tYes) rfl nd (pi_listK K (pv 1)) (blkOk_by (N := N_is_tower) (sc := (defScope (topS 52))) (by decide +kernel)) (fun _ _ _ _ _ => pg_name (i := 4) nd rfl (Or.inl rfl)) (fun _ _ _ _ _ => pts_nil) (fun _ _ _ _ _ => pe_ct c_is_still hr (by decide) (by rfl) (pa_cons (pv 0) (pa_cons (pv 4) pa_nil)))) pa_nil)))))))
    (pss_one (ps_ret pe_bl)) pss_nil)
  (pss_cons (ps_for PassesOwn.never rfl (pi_zipK K (by rfl) (T.fr "zip" (by decide)) (pa_cons (pv 1) (pa_cons (pe_slice (sl_listK K) (pv 1) (po_some pe_int) po_none) pa_nil))) (pg_tup (by rfl) (pgs_cons (pg_name (i := 2) nd rfl (Or.inl rfl)) (pgs_cons (pg_name (i := 3) nd rfl (Or.inl rfl)) pgs_nil)))
    (pss_one (ps_if (PW.pt (pw_or (pt_cmpR (op_eqDK K hr.units) (pv 2) (pv 3) (nomark _)) (pw_or1 (pt_not (pt_val (pe_ct c_is_within hr (by decide) (by rfl) (pa_cons (pe_ix (ix_tupK K) (pv 0) pe_int (fun _ _ => rfl)) (pa_cons (pv 2) (pa_cons (pv 3) pa_nil)))))))))
    (pss_one (ps_ret pe_bl)) pss_nil)))
  (pss_one (ps_ret (pe_callB (cr_allK K rfl) (by rfl) (T.fr "all" (by decide)) (by decide +kernel) (pa_cons (pe_lc (own := [("one", 5)]) (g := gName 5) (tt := tYes) rfl nd (pi_listK K (pe_ct c_parts_of hr (by decide) (by rfl) (pa_cons (pv 0) (pa_cons (pv 1) pa_nil)))) (blkOk_by (N := N_is_tower) (sc := (defScope (topS 52))) (by decide +kernel)) (fun _ _ _ _ _ => pg_name (i := 5) nd rfl (Or.inl rfl)) (fun _ _ _ _ _ => pts_nil) (fun _ _ _ _ _ => pe_ct c_is_tight hr (by decide) (by rfl) (pa_cons (pv 5) pa_nil))) pa_nil))))))), ?_⟩
    have hne := tw_ne ok.pos tw
    have hpos := List.length_pos_iff.mpr hne
    have hn6 := ok.six
    have hall : (fs.all fun _ => true) = true := all_true fs
    refine s_if k (et_or (et_not (et_B (ev_isiL kib3 (ev_var rfl h2)))) fun _ => et_or (et_test (ev_eq (ev_len (ev_var rfl h2)) ev_nat rfl)) fun _ => et_not (et_B (ev_allM (xs := fs) (f := fun _ => true) ((en_map (R' := fun b : Bool => oB b) _ (ei_list (ev_var rfl h2)) (oL_len h2) fun f hf Y H5 v5 l5 rv => ⟨_, tg1, rfl, ?_⟩).ev (by rw [List.length_map]; exact oL_len h2))))) (fun hb H1 s1 => ?_) fun _ H1 s1 => ?_
    · obtain ⟨p, hp, rfl⟩ := cf_mem ok.pos ok.sq Lo.nil tw hf
      exact ev_is_form_of ⟨ok, hp.u, fun z => by have := hp.lt; rw [z] at this; simp at this⟩ (ev_var rfl (up l5 h1)) (ev_var rfl rv)
    · exfalso
      rw [hall, dec_nat] at hb
      simp at hb
      exact hne hb
    have k1 := k.same s1
    have h11 := rsm s1 h1
    have h21 := rsm s1 h2
    refine s_if k1 (et_or (et_test (ev_neD (R := fun f : List (List (Fq q)) => oRows f) (by decide : (2 : Nat) ≤ 64) (ev_ixL (R := fun f : List (List (Fq q)) => oRows f) (ev_var rfl h21) (ev_neg ev_int) (cf_last tw hne)) (ev_plain (by omega) (ev_t1 (ev_var rfl h11))))) fun _ => et_not (et_B (ev_allM (xs := fs) (f := fun _ => true) ((en_map (R' := fun b : Bool => oB b) _ (ei_list (ev_var rfl h21)) (oL_len h2) fun f hf Y H5 v5 l5 rv => ⟨_, tg1, rfl, ?_⟩).ev (by rw [List.length_map]; exact oL_len h2))))) (fun hb H2 s2 => ?_) fun _ H2 s2 => ?_
    · obtain ⟨p, hp, rfl⟩ := cf_mem ok.pos ok.sq Lo.nil tw hf
      exact (ev_is_still ⟨ok.toCrOk, hp.u⟩ (ev_var rfl (up l5 h11)) (ev_var rfl rv)).eq (by rw [still_md ok.toCrOk hp.u hp.mu])
    · exfalso
      rw [hall, decide_eq_true rfl] at hb
      simp at hb
    have k2 := k1.same s2
    have h12 := rsm s2 h11
    have h22 := rsm s2 h21
    have s02 := s1.trans s2
    have hdl : (fs.drop 1).length ≤ fs.length := by rw [List.length_drop]; omega
    refine s_for k2 (ei_zipR (R := fun f : List (List (Fq q)) => oRows f) (R' := fun f : List (List (Fq q)) => oRows f) (ev_var rfl h22) (((en_slice (R := fun f : List (List (Fq q)) => oRows f) (ev_var rfl h22) (eo_some ev_int) eo_none).eq (cut_tail fs)).ev (Nat.le_trans hdl (oL_len h2))) hdl) fun H3 s3 l3 => ?_
    refine ⟨fun i σ1 H4 => (∃ z1 z2, σ1 = [some u1, some u2, z1, z2, none, none]) ∧ Same H H4, ⟨⟨none, none, rfl⟩, s02.trans s3⟩, ?_, ?_⟩
    · rintro i p σ1 H4 H5 vp hp l4 ⟨⟨z1, z2, rfl⟩, sa⟩ s5 hvp
      have l5 := l4.same s5
      have lk := l3.trans l5
      obtain ⟨a, b, ha, hb, tg⟩ := tg2 (K := K) (i := 2) (j := 3) (σ := [some u1, some u2, z1, z2, none, none]) hvp
      have hs := CF.sec ok.pos ok.sq Lo.nil tw p (sec_drop (List.mem_of_getElem? hp))
      refine tg _ ?_
      refine s_if1 l5.kn (et_or (et_test (ev_eqD (R := fun f : List (List (Fq q)) => oRows f) (by decide : (2 : Nat) ≤ 64) (ev_var rfl ha) (ev_var rfl hb))) fun _ => et_not (et_B (ev_is_within (n := n) ⟨hs.u.toPre, hs.l.row⟩ (ev_t0 (ev_var rfl (up lk h12))) (ev_var rfl ha) (ev_var rfl hb)))) (fun hb2 H6 s6 => ?_) fun _ H6 s6 => ⟨⟨⟨_, _, rfl⟩, (sa.trans s5).trans s6⟩, l5.same s6⟩
      exfalso
      have e1 : ¬ p.1 = p.2 := fun z => by have := hs.lt; rw [z] at this; omega
      have e2 : (p.1.all fun r => hasM p.2 r) = true := by
        rw [List.all_eq_true]
        intro r hr
        exact (has_iff hs.u.toPre (hs.l.row r hr)).mpr (hs.le _ (Spn.mem hr))
      rw [e2, decide_eq_false e1] at hb2
      simp at hb2
    · rintro σ1 H4 l4 ⟨⟨z1, z2, rfl⟩, sa⟩
      have lk := l3.trans l4
      have hpl : (prts tabs fs).length = fs.length := by unfold prts; rw [List.length_map, secF_len]
      have hfl := oL_len h2
      refine s_ret l4.kn (ev_allM (xs := prts tabs fs) (f := fun _ => true) ((en_map (R' := fun b : Bool => oB b) _ (ei_list (ev_parts_of ⟨ok, tw⟩ (ev_var rfl (up lk h12)) (ev_var rfl (up lk h22)))) (by omega) fun c hc Y H5 v5 l5 rv => ⟨_, tg1, rfl, ?_⟩).ev (by rw [List.length_map]; omega))) fun H6 v6 s6 o6 => post H6 v6 (sa.trans s6) ?_
      · obtain ⟨p, hp, rfl⟩ := List.mem_map.mp hc
        have hs := CF.sec ok.pos ok.sq Lo.nil tw p hp
        refine (ev_is_tight (n := (prt tabs p).1) (tabs := (prt tabs p).2) (sec_crA ok hs.toSec hs.lt).toCrB (ev_var rfl rv)).imp fun Y3 H3 v3 l3 ⟨b, hb, o3⟩ => ?_
        have : b = true := hb.mpr hs.tight
        rw [this] at o3
        exact o3
      · rw [all_true] at o6
        exact o6
theorem ev_notNone {α : Type} {R : α → Ob} {o : Option α} (hR : ∀ x X H, ¬ R x X H .non) (h : EvP ta σ X H (oO R o)) : EvP (tOp (fun x y H Q => y = .non ∧ Q (.bl (!decide (x = .non))) H) ta (tC .non)) σ X H (oB (!decide (o = none))) := fun Y H1 l Q q =>
  h Y H1 l _ fun H2 v s ov => ⟨rfl, q H2 _ s (by
    show V.bl _ = V.bl _
    cases o with
    | none =>
      have e : v = .non := ov
      subst e
      simp
    | some x =>
      have : v ≠ .non := fun z => hR x Y H2 (z ▸ ov)
      simp [this])⟩
/-! def paired: slots 0=here 1=others 2=free 3=place 4=table -/
abbrev N_paired : List Str := ["here", "others", "free", "place", "table"]
theorem sc_paired : FnScope N_paired ["here", "others", "free"] (defScope (topS 53)) := ⟨rfl, rfl, rfl, by decide +kernel, rfl, by decide +kernel, by decide +kernel⟩
abbrev PaI (q : Pm) : Type := Cw q × List (Cw q) × List Nat
structure PaOk {q : Pm} (here : Cw q) (others : List (Cw q)) (free : List Nat) : Prop where
  fit : ∀ c, c ∈ others → FitOk here.1 here.2 c.1 c.2
  lt : ∀ j, j ∈ free → j < others.length
  ex : ∃ j c, j ∈ free ∧ others[j]? = some c ∧ alk here c
def sp_paired : L2.Sp := mkSp (ι := (q : Pm) × PaI q) (fun i X H vs => PaOk i.2.1 i.2.2.1 i.2.2.2 ∧ a3 (oCw i.2.1) (oL oCw i.2.2.1) (oL (fun k : Nat => oN k) i.2.2.2) X H vs) (fun i => oEx (fun z : Nat × List (List (Fq i.1)) => oP (oN z.1) (oRows z.2)) (fun z => z.1 ∈ i.2.2.2 ∧ ∃ c, i.2.2.1[z.1]? = some c ∧ alk i.2.1 c))
theorem ev_paired {q : Pm} {here : Cw q} {others : List (Cw q)} {free : List Nat} (ok : PaOk here others free) (h1 : EvP ta σ X H (oCw here)) (h2 : EvP tb σ X H (oL oCw others)) (h3 : EvP tc σ X H (oL (fun k : Nat => oN k) free)) : EvP (tCall sp_paired [] E0 (tCons ta (tCons tb (tCons tc tNil)))) σ X H (oEx (fun z : Nat × List (List (Fq q)) => oP (oN z.1) (oRows z.2)) (fun z => z.1 ∈ free ∧ ∃ c, others[z.1]? = some c ∧ alk here c)) :=
  ev_call (⟨q, here, others, free⟩ : (q : Pm) × PaI q) (EvA.pre ok (ea3 h1 h2 h3))
theorem c_paired (c_first_alike : Ct w K mg base 8 "first_alike" sp_first_alike) (T : Tp K mg) : Ct w K mg base 9 "paired" sp_paired := by
  refine ct_mk T (i := 53) (by decide) sc_paired (fun _ _ _ _ _ _ us hl => match us, hl with | [_, _, _], _ => rfl) (mkSp_len fun i X H vs h => ?_) fun f cdv A outer s H vs Q E hr h => ?_
  · exact a3_len h.2
  · obtain ⟨⟨q, here, others, free⟩, X, k, ⟨⟨fit, lt, j0, c0, hj0, hc0, hal⟩, u1, u2, u3, rfl, h1, h2, h3⟩, post⟩ := h
    dsimp only at fit lt hj0 hc0 hal h1 h2 h3 post
    have nd := sc_paired.nd
    refine ⟨_, PSs.nox (pss_cons (ps_for PassesOwn.never rfl (pi_listK K (pv 2)) (pg_name (i := 3) nd rfl (Or.inl rfl))
    (pss_cons (ps_set (i := 4) nd rfl (.inl rfl) (pe_ct c_first_alike hr (by decide) (by rfl) (pa_cons (pv 0) (pa_cons (pe_ix (ix_listK K) (pv 1) (pv 3) (fun _ _ => rfl)) pa_nil))))
  (pss_one (ps_if (pt_cmpR op_notN (pv 4) pe_non (nomark _))
    (pss_one (ps_ret (pe_tup (pa_cons (pv 3) (pa_cons (pv 4) pa_nil))))) pss_nil))))
  (pss_one (ps_ret pe_non))), ?_⟩
    refine s_for k (ei_list (ev_var rfl h3)) fun H1 s1 l1 => ?_
    refine ⟨fun i σ1 H4 => (∃ z1 z2, σ1 = [some u1, some u2, some u3, z1, z2]) ∧ Same H H4 ∧ ∀ j c, j ∈ free.take i → others[j]? = some c → ¬ alk here c, ⟨⟨none, none, rfl⟩, s1, fun j c hj => by rw [List.take_zero] at hj; simp at hj⟩, ?_, ?_⟩
    · rintro i j σ1 H4 H5 vj hj l4 ⟨⟨z1, z2, rfl⟩, sa, hno⟩ s5 hvj
      have l5 := l4.same s5
      have sb := sa.trans s5
      have hjm := List.mem_of_getElem? hj
      have hjl := lt j hjm
      have hc : others[j]? = some others[j] := List.getElem?_eq_getElem hjl
      generalize others[j] = c at hc
      refine tg1 _ ?_
      refine s_set l5.kn (ev_first_alike (m := here.1) (ts := here.2) (n := c.1) (us := c.2) (fit c (List.mem_of_getElem? hc)) (ev_var rfl (show oCw here X H5 u1 from rsm sb h1)) (ev_ix (R := fun c : Cw q => oCw c) (ev_var rfl (rsm sb h2)) (ev_var rfl hvj) hc)) fun H6 v6 s6 ⟨o, ho, o6⟩ => ?_
      have l6 := l5.same s6
      cases o with
      | none =>
        refine s_if1 l6.kn (et_test (ev_notNone (o := (none : Option (List (List (Fq q))))) (R := fun f => oRows f) (fun x X H => oL_non x X H) (ev_var rfl o6))) (fun hb => by simp at hb) fun _ H7 s7 => ⟨⟨⟨_, _, rfl⟩, (sb.trans s6).trans s7, fun j2 c2 hj2 hc2 => ?_⟩, l6.same s7⟩
        rw [List.take_add_one, hj] at hj2
        rcases List.mem_append.mp hj2 with hj2 | hj2
        · exact hno j2 c2 hj2 hc2
        · have : j2 = j := by simpa using hj2
          subst this
          have : c2 = c := by rw [hc] at hc2; exact (Option.some.inj hc2).symm
          subst this
          exact fun z => (ho.mpr z) rfl
      | some t =>
        refine s_if1 l6.kn (et_test (ev_notNone (o := some t) (R := fun f => oRows f) (fun x X H => oL_non x X H) (ev_var rfl o6))) (fun _ H7 s7 => ?_) fun hb => by simp at hb
        have o7 : oRows t X H7 v6 := rsm s7 o6
        refine s_ret (l6.same s7).kn (ev_tup2 (ev_var rfl (rsm (s6.trans s7) hvj)) (ev_var rfl o7)) fun H8 v8 s8 o8 => post H8 v8 (((sb.trans s6).trans s7).trans s8) ⟨(j, t), ⟨hjm, c, hc, ho.mp (fun z => nomatch z)⟩, o8⟩
    · rintro σ1 H4 l4 ⟨⟨z1, z2, rfl⟩, sa, hno⟩
      exfalso
      rw [take_all] at hno
      exact hno j0 c0 hj0 hc0 hal
end
end Still

set_option Elab.async false
set_option linter.all false
set_option maxRecDepth 100000
set_option maxHeartbeats 4000000
namespace Still
open PySem PySem.Spec PyProof.Rows L2
section
variable {w : World} {K : PySem.W.Frag} {mg : Str → Option Value} {base : Heap}
variable {σ : L2.St} {X : AX} {H : Hp} {ta tb tc td te : TE} {t u : TS} {D : Ends}
def oAny : Ob := fun _ _ _ => True
instance : Rep oAny := ⟨fun _ _ => trivial⟩
theorem map_eraseIdx {α β : Type} (f : α → β) : ∀ (l : List α) (j : Nat), (l.map f).eraseIdx j = (l.eraseIdx j).map f
  | [], j => by simp
  | a :: r, 0 => by simp
  | a :: r, j + 1 => by
    have ih := map_eraseIdx f r j
    simp [ih]
theorem s_remove {i k : Nat} {l : Addr} {fr : List Nat} (kn : Kn X H) (e : σ[i]? = some (some (.ref l))) (hl : H l = some (.lst (fr.map fun j : Nat => V.int (j : Int)))) (hm : k ∈ fr) (h : EvP te σ X H (oN k))
    (next : ∀ H1, Same H H1 → u D σ (upd H1 l (.lst ((fr.erase k).map fun j : Nat => V.int (j : Int))))) : tSeq (tDrop (tBM K "list" rRemI (tVar i) (tCons te tNil))) u D σ H := by
  refine ⟨.ref l, e, .inl ⟨rfl, _, .inl (.inl hl)⟩, h X H (Lt.refl kn) _ fun H1 v s o => ?_⟩
  have ev : v = .int (k : Int) := o
  subst ev
  obtain ⟨j, h1, h2, h3⟩ := at_first hm
  have em : ∀ z : List Nat, (z.map fun j : Nat => V.int (j : Int)) = (z.map fun j : Nat => (j : Int)).map V.int := fun z => by rw [List.map_map]; rfl
  refine ⟨l, fr.map fun j : Nat => (j : Int), (k : Int), j, rfl, rfl, ?_, ?_, ?_, ?_⟩
  · rw [← em]
    exact s _ _ hl
  · rw [List.getElem?_map, h1]; rfl
  · intro m hmj z
    rw [List.getElem?_map] at z
    cases hz : fr[m]? with
    | none => rw [hz] at z; cases z
    | some a =>
      rw [hz] at z
      have z : (a : Int) = (k : Int) := Option.some.inj z
      have : a = k := by omega
      exact h2 m hmj (by rw [hz, this])
  · have := next H1 s
    rw [em, ← h3, ← map_eraseIdx] at this
    exact this
theorem s_unEx {α : Type} {A B : α → Ob} {P : α → Prop} {i j : Nat} (k : Kn X H) (h : EvP te σ X H (oEx (fun z => oP (A z) (B z)) P)) (next : ∀ H1 x y z, Same H H1 → P z → A z X H1 x → B z X H1 y → u D ((σ.set i (some x)).set j (some y)) H1) : tSeq (tAsg te (gTup K 2 (gCons (gName i) (gCons (gName j) gNil)))) u D σ H :=
  h X H (Lt.refl k) _ fun H1 v s ⟨z, hz, a, x, y, e, n, h1, hx, hy⟩ => ⟨a, [x, y], e, .inl (.inl h1), rfl, x, [y], rfl, y, [], rfl, rfl, next H1 x y z s hz hx hy⟩
/-! def pairing: slots 0=crew 1=one 2=other 3=others 4=free 5=found 6=place 7=here 8=there 9=table -/
abbrev N_pairing : List Str := ["crew", "one", "other", "others", "free", "found", "place", "here", "there", "table"]
theorem sc_pairing : FnScope N_pairing ["crew", "one", "other"] (defScope (topS 54)) := ⟨rfl, rfl, rfl, by decide +kernel, rfl, by decide +kernel, by decide +kernel⟩
structure PgOk {q : Pm} (n : Nat) (tabs one other : List (List (List (Fq q)))) : Prop where
  cr : CrA n tabs
  a : Tw n tabs one
  b : Tw n tabs other
abbrev PgI (q : Pm) : Type := Nat × List (List (List (Fq q))) × List (List (List (Fq q))) × List (List (List (Fq q)))
abbrev oMany (n : Nat) : Ob := oL (fun _ : Unit => oAny) (List.replicate n ())
def sp_pairing : L2.Sp := mkSp (ι := (q : Pm) × PgI q) (fun i X H vs => PgOk i.2.1 i.2.2.1 i.2.2.2.1 i.2.2.2.2 ∧ a3 (oCrew i.2.1 i.2.2.1) (oTabs i.2.2.2.1) (oTabs i.2.2.2.2) X H vs) (fun i => oMany i.2.2.2.1.length)
theorem ev_pairing {q : Pm} {n : Nat} {tabs one other : List (List (List (Fq q)))} (ok : PgOk n tabs one other) (h1 : EvP ta σ X H (oCrew n tabs)) (h2 : EvP tb σ X H (oTabs one)) (h3 : EvP tc σ X H (oTabs other)) : EvP (tCall sp_pairing [] E0 (tCons ta (tCons tb (tCons tc tNil)))) σ X H (oMany one.length) :=
  ev_call (⟨q, n, tabs, one, other⟩ : (q : Pm) × PgI q) (EvA.pre ok (ea3 h1 h2 h3))
theorem s_rgl {i n : Nat} (k : Kn X H) (h : EvP te σ X H (oN n)) (hn : n ≤ 5000) (next : ∀ H1 l, Same H H1 → H l = none → H1 l = some (.lst ((List.range n).map fun j : Nat => V.int (j : Int))) → Lt X H (hid X l) H1 → u D (σ.set i (some (.ref l))) H1) : tSeq (tAsg (tLstRg (tRg1 te)) (gName i)) u D σ H :=
  h X H (Lt.refl k) _ fun H1 v s o => by
    have ev : v = .int (n : Int) := o
    subst ev
    refine ⟨n, rfl, RgOk.of_le (by omega) (by omega) (by omega) (by omega), fun p np => ?_⟩
    have er : rgV 0 (n : Int) = (List.range n).map fun j : Nat => V.int (j : Int) := by
      unfold rgV
      rw [Int.sub_zero, Int.toNat_natCast]
      exact List.map_congr_left fun j _ => by rw [Int.zero_add]
    rw [er]
    have sn : Same H (upd H1 p (.lst ((List.range n).map fun j : Nat => V.int (j : Int)))) := s.trans (same_new np)
    exact next _ p sn (s.free np) upd_same ((Lt.refl k).fresh sn (s.free np) upd_same)
theorem same_write2 {H H1 : Hp} {l : Addr} {o : HO} (s : Same H H1) (n : H l = none) : Same H (upd H1 l o) := same_write s n
theorem c_pairing (c_is_tower : Ct w K mg base 9 "is_tower" sp_is_tower) (c_parts_of : Ct w K mg base 9 "parts_of" sp_parts_of) (c_paired : Ct w K mg base 9 "paired" sp_paired) (T : Tp K mg) : Ct w K mg base 10 "pairing" sp_pairing := by
  refine ct_mk T (i := 54) (by decide) sc_pairing (fun _ _ _ _ _ _ us hl => match us, hl with | [_, _, _], _ => rfl) (mkSp_len fun i X H vs h => ?_) fun f cdv A outer s H vs Q E hr h => ?_
  · exact a3_len h.2
  · obtain ⟨⟨q, n, tabs, one, other⟩, X, k, ⟨⟨ok, ta, tb⟩, u1, u2, u3, rfl, h1, h2, h3⟩, post⟩ := h
    dsimp only at ok ta tb h1 h2 h3 post
    have nd := sc_pairing.nd
    refine ⟨_, PSs.nox (pss_cons (ps_if (PW.pt (pw_or (pt_not (pt_val (pe_ct c_is_tower hr (by decide) (by rfl) (pa_cons (pv 0) (pa_cons (pv 1) pa_nil))))) (pw_or1 (pt_not (pt_val (pe_ct c_is_tower hr (by decide) (by rfl) (pa_cons (pv 0) (pa_cons (pv 2) pa_nil))))))))
    (pss_one (ps_never)) pss_nil)
  (pss_cons (ps_set (i := 3) nd rfl (.inl rfl) (pe_ct c_parts_of hr (by decide) (by rfl) (pa_cons (pv 0) (pa_cons (pv 2) pa_nil))))
  (pss_cons (ps_set (i := 4) nd rfl (.inl rfl) (pe_listRg rfl (by rfl) (T.fr "list" (by decide)) (prg_1 (by rfl) (T.fr "range" (by decide)) (pe_callB (call_lenK K) (by rfl) (T.fr "len" (by decide)) PySem.boot_len (pa_cons (pv 3) pa_nil)))))
  (pss_cons (ps_set (i := 5) nd rfl (.inl rfl) (pe_lst pa_nil))
  (pss_cons (ps_for PassesOwn.never rfl (pi_enumK K (by rfl) (T.fr "enumerate" (by decide)) (pa_cons (pe_ct c_parts_of hr (by decide) (by rfl) (pa_cons (pv 0) (pa_cons (pv 1) pa_nil))) pa_nil)) (pg_tup (by rfl) (pgs_cons (pg_name (i := 6) nd rfl (Or.inl rfl)) (pgs_cons (pg_name (i := 7) nd rfl (Or.inl rfl)) pgs_nil)))
    (pss_cons (ps_asg (pe_ct c_paired hr (by decide) (by rfl) (pa_cons (pv 7) (pa_cons (pv 3) (pa_cons (pv 4) pa_nil)))) (pg_tup (by rfl) (pgs_cons (pg_name (i := 8) nd rfl (Or.inl rfl)) (pgs_cons (pg_name (i := 9) nd rfl (Or.inl rfl)) pgs_nil))))
  (pss_cons (ps_expr (pe_bm PySem.F.plainAttrs_list PySem.F.slot_list_remove PySem.F.type_list_remove mt_remove (pv 4) (pa_cons (pv 8) pa_nil)))
  (pss_one (ps_expr (pe_bm PySem.F.plainAttrs_list PySem.F.slot_list_append PySem.F.type_list_append mt_append (pv 5) (pa_cons (pe_tup (pa_cons (pv 6) (pa_cons (pv 8) (pa_cons (pv 9) pa_nil)))) pa_nil)))))))
  (pss_one (ps_ret (pv 5)))))))), ?_⟩
    have sa := CF.sec ok.pos ok.sq Lo.nil ta
    have sb := CF.sec ok.pos ok.sq Lo.nil tb
    have hla : (prts tabs one).length = one.length := by unfold prts; rw [List.length_map, secF_len]
    have hlb : (prts tabs other).length = other.length := by unfold prts; rw [List.length_map, secF_len]
    have hl2 := oL_len h2
    have hl3 := oL_len h3
    refine s_if k (et_or (et_not (et_B (ev_is_tower ⟨ok, ta⟩ (ev_var rfl h1) (ev_var rfl h2)))) fun _ => et_not (et_B (ev_is_tower ⟨ok, tb⟩ (ev_var rfl h1) (ev_var rfl h3)))) (fun hb => by simp at hb) fun _ H1 s1 => ?_
    have k1 := k.same s1
    refine s_set k1 (ev_parts_of ⟨ok, tb⟩ (ev_var rfl (rsm s1 h1)) (ev_var rfl (rsm s1 h3))) fun H2 vo s2 o2 => ?_
    have k2 := k1.same s2
    have s02 := s1.trans s2
    refine s_rgl k2 (ev_len (ev_var rfl o2)) (by omega) fun H3 l s3 nl ell l3 => ?_
    have s03 := s02.trans s3
    refine s_new l3.kn (en_nil (R := fun _ : Unit => oAny)) fun H4 m vs s4 nm em it4 l4 => ?_
    have hv0 : vs = [] := List.length_eq_zero_iff.mp it4.1
    subst hv0
    have lm : l ≠ m := fun z => by rw [z] at ell; rw [ell] at nm; cases nm
    have hn0 : H l = none := s02.free nl
    have hm0 : H m = none := s03.free nm
    have lb := l3.trans l4
    have sb4 : Same H H4 := s03.trans s4
    have o24 := up lb o2
    have h14 := up lb (rsm s02 h1)
    have h24 := up lb (rsm s02 h2)
    have hwk : ∀ a, X a → hid (hid X l) m a := fun a h => .inl (.inl h)
    refine s_for l4.kn (ei_enum (ev_parts_of ⟨ok, ta⟩ (ev_var rfl h14) (ev_var rfl h24))) fun H5 s5 l5 => ?_
    let gp : Nat → List (List (Fq q)) × List (List (Fq q)) := fun j => (secF [] other).getD j ([], [])
    have hgp : ∀ j, j < other.length → (secF [] other)[j]? = some (gp j) ∧ (prts tabs other)[j]? = some (prt tabs (gp j)) ∧ SecS n tabs (gp j) := fun j hj => by
      have hj2 : j < (secF [] other).length := by rw [secF_len]; exact hj
      have e : (secF [] other)[j]? = some (gp j) := by
        show _ = some ((secF [] other).getD j ([], []))
        rw [List.getD_eq_getElem?_getD, List.getElem?_eq_getElem hj2]; rfl
      refine ⟨e, ?_, sb _ (List.mem_of_getElem? e)⟩
      unfold prts
      rw [List.getElem?_map, e]; rfl
    have hrg : (List.range other.length).map gp = secF [] other := by
      refine List.ext_getElem? fun j => ?_
      rw [List.getElem?_map]
      by_cases hj : j < other.length
      · rw [List.getElem?_range hj, (hgp j hj).1]; rfl
      · rw [List.getElem?_eq_none (by rw [List.length_range]; omega), List.getElem?_eq_none (by rw [secF_len]; omega)]; rfl
    refine ⟨fun i σ1 H6 => (∃ z6 z7 z8 z9, σ1 = [some u1, some u2, some u3, some vo, some (.ref l), some (.ref m), z6, z7, z8, z9]) ∧ Same H H6 ∧
        (∃ fr : List Nat, H6 l = some (.lst (fr.map fun j : Nat => V.int (j : Int))) ∧ (∀ j, j ∈ fr → j < other.length) ∧ fr.length ≤ 5000 ∧ ∀ z, cl (Al tabs) z ((secF [] one).drop i) = cl (Al tabs) z (fr.map gp)) ∧
        ∃ acc, H6 m = some (.lst acc) ∧ acc.length = i, ⟨⟨none, none, none, none, rfl⟩, sb4.trans s5, ⟨List.range other.length, ?_, fun j hj => List.mem_range.mp hj, by rw [List.length_range]; exact hl3, fun z => ?_⟩, [], s5 _ _ em, rfl⟩, ?_, ?_⟩
    · rw [← hlb]
      exact s5 _ _ (s4 _ _ ell)
    · rw [hrg, List.drop_zero]
      exact tw_count ta tb z
    · rintro i x σ1 H6 H7 vx hx l6 ⟨⟨z6, z7, z8, z9, rfl⟩, sc, ⟨fr, ef, hfr, hfl, hcl⟩, acc, ea, hacc⟩ s7 hvx
      have l7 := l6.same s7
      have lk := l5.trans l7
      obtain ⟨e1, e2⟩ := numd_get hx
      obtain ⟨a, b, ha, hb, tg⟩ := tg2 (K := K) (i := 6) (j := 7) (σ := [some u1, some u2, some u3, some vo, some (.ref l), some (.ref m), z6, z7, z8, z9]) hvx
      unfold prts at e2
      rw [List.getElem?_map] at e2
      obtain ⟨p, hp, e2⟩ : ∃ p, (secF [] one)[i]? = some p ∧ prt tabs p = x.2 := by
        cases hz : (secF [] one)[i]? with
        | none => rw [hz] at e2; cases e2
        | some p => rw [hz] at e2; exact ⟨p, rfl, Option.some.inj e2⟩
      have hsp := sa p (List.mem_of_getElem? hp)
      have hdrop : (secF [] one).drop i = p :: (secF [] one).drop (i + 1) := by
        obtain ⟨hi1, hi2⟩ := List.getElem?_eq_some_iff.mp hp
        rw [List.drop_eq_getElem_cons hi1, hi2]
      rw [hdrop] at hcl
      obtain ⟨j0, y0, hj0, hal0⟩ := cl_pick hsp.refl hcl
      rw [List.getElem?_map] at hj0
      obtain ⟨c0, hc0, hy0⟩ : ∃ c, fr[j0]? = some c ∧ gp c = y0 := by
        cases hz : fr[j0]? with
        | none => rw [hz] at hj0; cases hj0
        | some c => rw [hz] at hj0; exact ⟨c, rfl, Option.some.inj hj0⟩
      subst hy0
      have hc0m := List.mem_of_getElem? hc0
      have k7 : Kn X H7 := kn_wk l7.kn hwk
      have eo7 : oL oCw (prts tabs other) X H7 vo := dn hwk (up lk o24)
      have eb7 : oCw x.2 X H7 b := dn hwk hb
      have ef7 : oL (fun k : Nat => oN k) fr X H7 (.ref l) := oL.mk (notKn k2 nl) (s7 _ _ ef) Its.of_flat hfl
      have few : ∀ z ∈ secF [] other, CrA (betw z.1 z.2).length (partM z.1 z.2 tabs) := fun z hz => sec_crA ok (sb z hz).toSec (sb z hz).lt
      have pok : PaOk x.2 (prts tabs other) fr := by
        refine ⟨fun c hc => ?_, fun j hj => by rw [hlb]; exact hfr j hj, c0, prt tabs (gp c0), hc0m, (hgp c0 (hfr c0 hc0m)).2.1, ?_⟩
        · obtain ⟨z, hz, rfl⟩ := List.mem_map.mp hc
          rw [← e2]
          exact ⟨sec_crA ok hsp.toSec hsp.lt, few z hz, by show (partM _ _ tabs).length = (partM _ _ tabs).length; unfold partM; rw [List.length_map, List.length_map]⟩
        · rw [← e2]
          exact (alk_al hsp (hgp c0 (hfr c0 hc0m)).2.2).mpr hal0
      refine tg _ ?_
      refine s_unEx (X := X) k7 (ev_paired pok (ev_var rfl eb7) (ev_var rfl eo7) (ev_var rfl ef7)) fun H8 x8 y8 z s8 ⟨hz1, c, hc, hal⟩ hx8 hy8 => ?_
      have l8 := l7.same s8
      have k8 := k7.same s8
      have hx8 : x8 = .int (z.1 : Int) := hx8
      have px : ∀ {X H}, oN z.1 X H x8 := fun {_ _} => hx8
      refine s_remove (X := X) k8 rfl (s8 _ _ (s7 _ _ ef)) hz1 (ev_var rfl px) fun H9 s9 => ?_
      have lw : Lt (hid (hid X l) m) H9 (hid (hid X l) m) (upd H9 l (.lst ((fr.erase z.1).map fun j : Nat => V.int (j : Int)))) := (Lt.refl (l8.same s9).kn).write (.inl (.inr rfl))
      have l10 := (l8.same s9).trans lw
      have ea10 : (upd H9 l (.lst ((fr.erase z.1).map fun j : Nat => V.int (j : Int)))) m = some (.lst acc) := by
        rw [upd_ne (fun z => lm z.symm)]
        exact s9 _ _ (s8 _ _ (s7 _ _ ea))
      have hi5 : i < 5000 := by
        have := (List.getElem?_eq_some_iff.mp hp).1
        rw [secF_len] at this
        omega
      have hz3 : oRows z.2 X H9 y8 := rsm s9 hy8
      refine s_append (O := oAny) l10.kn rfl ea10 (by omega) ((ev_tup3 (A := oAny) (B := oAny) (C := oAny) (ev_var rfl trivial) (ev_var rfl trivial) (ev_var rfl trivial)).imp fun _ _ _ _ _ => trivial) fun H11 v11 s11 _ => ?_
      refine ⟨⟨⟨_, _, _, _, rfl⟩, ?_, ⟨fr.erase z.1, ?_, fun j hj => hfr j (List.mem_of_mem_erase hj), Nat.le_trans (List.length_erase_le) hfl, ?_⟩, _, upd_same, by rw [List.length_append, hacc]; rfl⟩, (l10.same s11).write (.inr rfl)⟩
      · exact same_write ((same_write (((sc.trans s7).trans s8).trans s9) hn0).trans s11) hm0
      · rw [upd_ne lm]
        exact s11 _ _ upd_same
      · have hcz := (hgp z.1 (hfr _ hz1)).2
        have : c = prt tabs (gp z.1) := Option.some.inj (hc.symm.trans hcz.1)
        subst this
        rw [← e2] at hal
        have hal2 := (alk_al hsp hcz.2).mp hal
        exact cl_step (R := Al tabs) (fun _ _ => Al.symm) (fun _ _ _ => Al.trans) (((List.perm_cons_erase hz1).map gp)) hal2 hcl
    · rintro σ1 H6 l6 ⟨⟨z6, z7, z8, z9, rfl⟩, sc, _, acc, ea, hacc⟩
      rw [numd_len, hla] at hacc
      have or : oMany one.length X H6 (.ref m) := oL.mk (fun z => notKn l3.kn nm (.inl z)) ea ⟨by rw [hacc, List.length_replicate], fun _ _ _ _ _ => trivial⟩ (by rw [List.length_replicate]; exact hl2)
      exact s_ret (kn_wk l6.kn hwk) (ev_var rfl or) fun H7 v7 s7 o7 => post H7 v7 (sc.trans s7) o7
end
end Still

set_option Elab.async false
set_option linter.all false
set_option maxRecDepth 100000
set_option maxHeartbeats 4000000
namespace Still
open PySem PySem.Spec PyProof.Rows L2
/-! the law's bag: a list of two whole numbers that a call changes -/
def Bg (H : Hp) (l : Addr) (N : Nat) : Prop := ∃ b0 b1 : Int, H l = some (.lst [.int b0, .int b1]) ∧ 0 ≤ b1 ∧ b1 ≤ N
def But (l : Addr) (H H1 : Hp) : Prop := ∀ a o, a ≠ l → H a = some o → H1 a = some o
theorem But.of {l : Addr} {H H1 : Hp} (s : Same H H1) : But l H H1 := fun a o _ e => s a o e
theorem But.trans {l : Addr} {H H1 H2 : Hp} (a : But l H H1) (b : But l H1 H2) : But l H H2 := fun c o n e => b c o n (a c o n e)
theorem But.upd {l : Addr} {H : Hp} {o : HO} : But l H (upd H l o) := fun a u n e => by rw [upd_ne n]; exact e
theorem But.same {l : Addr} {H H1 H2 : Hp} (n : H l = none) (s : Same H H1) (b : But l H1 H2) : Same H H2 := fun a o e => b a o (ne_of_none e n) (s a o e)
theorem Bg.same {H H1 : Hp} {l : Addr} {N : Nat} (b : Bg H l N) (s : Same H H1) : Bg H1 l N := by
  obtain ⟨b0, b1, e, h⟩ := b
  exact ⟨b0, b1, s _ _ e, h⟩
theorem Bg.ne {H : Hp} {l : Addr} {N : Nat} (b : Bg H l N) : H l ≠ none := by
  obtain ⟨b0, b1, e, h⟩ := b
  rw [e]; exact fun z => nomatch z
theorem Bg.lt {X Y : AX} {H H1 H2 : Hp} {l : Addr} {N : Nat} (a : Lt X H Y H1) (hl : Y l) (b : But l H1 H2) (g : Bg H2 l N) : Lt X H Y H2 := by
  refine ⟨fun c o n e => ?_, fun c h z => ?_, a.wk⟩
  · obtain ⟨h1, h2⟩ := a.go c o n e
    exact ⟨h1, b c o (fun z => h1 (z ▸ hl)) h2⟩
  · by_cases e : c = l
    · subst e; exact g.ne z
    · cases hc : H1 c with
      | none => exact a.kn c h hc
      | some o => rw [b c o e hc] at z; cases z
/-! the law's script: a list of whole numbers, not of this run's -/
def oS (K : PySem.W.Frag) (xs : List Int) : Ob := fun X H v => ∃ a, v = .ref a ∧ xs.length ≤ 5000 ∧ ((¬ X a ∧ Rd H a (.lst (xs.map V.int))) ∨ ∃ (o : Obj) (its : Array Value) (n : Nat), K.lookup a = some o ∧ o.cls = .type "list" ∧ o.dict = none ∧ o.data = .seq its n ∧ its.size ≤ sizeLine ∧ Vals (xs.map V.int) its.toList)
instance (K : PySem.W.Frag) (xs : List Int) : Rep (oS K xs) := ⟨fun g ⟨a, e, b, h⟩ => ⟨a, e, b, h.imp (fun ⟨n, r⟩ => by
  rcases r with r | ⟨o, r⟩
  · exact ⟨(g a _ n r).1, .inl (g a _ n r).2⟩
  · exact ⟨(g a _ n r).1, .inr ⟨o, (g a _ n r).2⟩⟩) id⟩⟩
theorem oS.sq {K : PySem.W.Frag} {xs : List Int} {X : AX} {H : Hp} {v : V} (h : oS K xs X H v) : ∃ a, v = .ref a ∧ SqL K H a (xs.map V.int) := by
  obtain ⟨a, e, b, h⟩ := h
  exact ⟨a, e, h.imp (fun z => z.2) id⟩
def EvG (te : TE) (σ : L2.St) (l : Addr) (X : AX) (H : Hp) (N : Nat) (O : Ob) (N' : Nat) : Prop := ∀ Y H1, Lt X H Y H1 → Y l → Bg H1 l N → ∀ Q : VK, (∀ H2 v, But l H1 H2 → Bg H2 l N' → O Y H2 v → Q v H2) → te σ H1 Q
section
variable {w : World} {K : PySem.W.Frag} {mg : Str → Option Value} {base : Heap}
variable {σ : L2.St} {X : AX} {H : Hp} {ta tb tc td te tf tg' : TE} {t u : TS} {D : Ends} {l : Addr} {N N' : Nat} {A B O : Ob}
theorem eg_op [Rep A] {r : R2} (ha : EvP ta σ X H A) (hb : EvG tb σ l X H N B N') (h : ∀ Y H1 x y, Lt X H Y H1 → A Y H1 x → B Y H1 y → ∀ Q : VK, (∀ H2 v, Same H1 H2 → O Y H2 v → Q v H2) → r x y H1 Q) : EvG (tOp r ta tb) σ l X H N O N' := fun Y H1 lt hl bg Q q =>
  ha Y H1 lt _ fun H2 x s a => hb Y H2 (lt.same s) hl (bg.same s) _ fun H3 y b g o => by
    have l3 := g.lt (Lt.refl (lt.same s).kn) hl b
    exact h Y H3 x y (g.lt (lt.same s) hl b) (up l3 a) o Q fun H4 v s4 o4 => q H4 v (((But.of s).trans b).trans (But.of s4)) (g.same s4) o4
theorem eg_opR [Rep A] {r : R2} (ha : EvG ta σ l X H N A N') (hb : EvP tb σ X H B) (h : ∀ Y H1 x y, Lt X H Y H1 → A Y H1 x → B Y H1 y → ∀ Q : VK, (∀ H2 v, Same H1 H2 → O Y H2 v → Q v H2) → r x y H1 Q) : EvG (tOp r ta tb) σ l X H N O N' := fun Y H1 lt hl bg Q q =>
  ha Y H1 lt hl bg _ fun H2 x b g o => by
    have l2 := g.lt lt hl b
    exact hb Y H2 l2 _ fun H3 y s o3 => h Y H3 x y (l2.same s) (rsm s o) o3 Q fun H4 v s4 o4 => q H4 v ((b.trans (But.of s)).trans (But.of s4)) ((g.same s).same s4) o4
theorem s_setG {i : Nat} (k : Kn X H) (hl : X l) (g : Bg H l N) (h : EvG te σ l X H N O N') (next : ∀ H1 v, But l H H1 → Bg H1 l N' → Lt X H X H1 → O X H1 v → u D (σ.set i (some v)) H1) : tSeq (tAsg te (gName i)) u D σ H :=
  h X H (Lt.refl k) hl g _ fun H1 v b g1 o => next H1 v b g1 (g1.lt (Lt.refl k) hl b) o
theorem s_appendG {i : Nat} {r : Addr} {acc : List V} (k : Kn X H) (hl : X l) (g : Bg H l N) (e : σ[i]? = some (some (.ref r))) (hr : H r = some (.lst acc)) (hn : acc.length < 5000) (rl : r ≠ l) (h : EvG te σ l X H N O N')
    (next : ∀ H1 v, But l H H1 → Bg H1 l N' → Lt X H X H1 → O X H1 v → D.nx σ (upd H1 r (.lst (acc ++ [v])))) : tDrop (tBM K "list" rAppend (tVar i) (tCons te tNil)) D σ H :=
  ⟨.ref r, e, .inl ⟨rfl, _, .inl (.inl hr)⟩, h X H (Lt.refl k) hl g _ fun H1 v b g1 o => ⟨r, acc, v, rfl, rfl, b _ _ rl hr, line5 (by omega), next H1 v b g1 (g1.lt (Lt.refl k) hl b) o⟩⟩
theorem ev_lenS {xs : List Int} (h : EvP ta σ X H (oS K xs)) : EvP (tCB (rLenK K) (tCons ta tNil)) σ X H (oN xs.length) := fun Y H1 l Q q =>
  h Y H1 l _ fun H2 v s o => by
    obtain ⟨a, rfl, hs⟩ := o.sq
    exact ⟨a, _, rfl, .inl hs, q H2 _ s (by rw [List.length_map]; rfl)⟩
theorem ev_ixS {xs : List Int} {i : Nat} {x : Int} (h : EvP ta σ X H (oS K xs)) (hb : EvP tb σ X H (oN i)) (hi : xs[i]? = some x) : EvP (tOp (rIxL K) ta tb) σ X H (oI x) :=
  ev_op h hb fun Y H1 v w l o e Q q => by
    obtain ⟨a, rfl, hs⟩ := o.sq
    have ew : w = .int (i : Int) := e
    subst ew
    exact ⟨a, _, i, .int x, rfl, rfl, hs, atI_nat (by rw [List.getElem?_map, hi]; rfl), q H1 _ (Same.refl _) rfl⟩
/-! def _law_cell: slots 0=_law_script 1=_law_k 2=_law_seed -/
abbrev N_law_cell : List Str := ["_law_script", "_law_k", "_law_seed"]
theorem sc_law_cell : FnScope N_law_cell ["_law_script", "_law_k"] (defScope (topS 56)) := ⟨rfl, rfl, rfl, by decide +kernel, rfl, by decide +kernel, by decide +kernel⟩
def sp_law_cell (K : PySem.W.Frag) : L2.Sp := mkSp (ι := List Int × Nat) (fun i X H vs => i.2 ≤ 1000 ∧ a2 (oS K i.1) (oN i.2) X H vs) (fun _ => oEx (fun c : Int => oI c) fun _ => True)
theorem ev_law_cell {xs : List Int} {k : Nat} (hk : k ≤ 1000) (h1 : EvP ta σ X H (oS K xs)) (h2 : EvP tb σ X H (oN k)) : EvP (tCall (sp_law_cell K) [] E0 (tCons ta (tCons tb tNil))) σ X H (oEx (fun c : Int => oI c) fun _ => True) :=
  ev_call ((xs, k) : List Int × Nat) (EvA.pre hk (ea2 h1 h2))
theorem ev_addI {a b : Int} (h1 : EvP ta σ X H (oI a)) (h2 : EvP tb σ X H (oI b)) : EvP (tOp (rI0 fun i j => .int (i + j)) ta tb) σ X H (oI (a + b)) := ev_I0 h1 h2
theorem c_law_cell (T : Tp K mg) : Ct w K mg base 1 "_law_cell" (sp_law_cell K) := by
  refine ct_mk T (i := 56) (by decide) sc_law_cell (fun _ _ _ _ _ _ us hl => match us, hl with | [_, _], _ => rfl) (mkSp_len fun i X H vs h => ?_) fun f cdv A outer s H vs Q E hr h => ?_
  · exact a2_len h.2
  · obtain ⟨⟨xs, i⟩, X, k, ⟨hi, u1, u2, rfl, h1, h2⟩, post⟩ := h
    dsimp only at hi h1 h2 post
    have nd := sc_law_cell.nd
    refine ⟨_, PSs.nox (pss_cons (ps_if (pt_cmpR op_lt (pv 1) (pe_callB (call_lenK K) (by rfl) (T.fr "len" (by decide)) PySem.boot_len (pa_cons (pv 0) pa_nil)) (nomark _))
    (pss_one (ps_ret (pe_ix (ix_listK K) (pv 0) (pv 1) (fun _ _ => rfl)))) pss_nil)
  (pss_cons (ps_set (i := 2) nd rfl (.inl rfl) (pe_op op_add (pe_op op_mul pe_int (pv 1)) pe_int))
  (pss_cons (ps_if (pt_cmpR op_gt (pe_callB (call_lenK K) (by rfl) (T.fr "len" (by decide)) PySem.boot_len (pa_cons (pv 0) pa_nil)) pe_int (nomark _))
    (pss_one (ps_set (i := 2) nd rfl (.inl rfl) (pe_op op_add (pv 2) (pe_op op_modN (pe_ix (ix_listK K) (pv 0) (pe_op op_modN (pv 1) (pe_callB (call_lenK K) (by rfl) (T.fr "len" (by decide)) PySem.boot_len (pa_cons (pv 0) pa_nil))) (fun _ _ => rfl)) pe_int)))) pss_nil)
  (pss_one (ps_ret (pe_op op_modN (pe_op op_mul (pe_op op_modN (pe_op op_mul (pv 2) pe_int) pe_int) (pe_op op_add (pv 1) pe_int)) pe_int)))))), ?_⟩
    refine s_if k (et_test (ev_I0 (ev_var rfl h2) (ev_lenS (ev_var rfl h1)))) (fun hb H1 s1 => ?_) fun hb H1 s1 => ?_
    · have hlt : i < xs.length := by have := of_decide_eq_true hb; omega
      exact s_ret (k.same s1) (ev_ixS (ev_var rfl (rsm s1 h1)) (ev_var rfl (rsm s1 h2)) (List.getElem?_eq_getElem hlt)) fun H2 v2 s2 o2 => post H2 v2 (s1.trans s2) ⟨_, trivial, o2⟩
    · have k1 := k.same s1
      refine s_set k1 (ev_addI (ev_mulL ev_int (ev_var rfl (rsm s1 h2)) (by omega)) ev_int) fun H2 v2 s2 o2 => ?_
      have k2 := k1.same s2
      have s02 := s1.trans s2
      have fin : ∀ (H3 : Hp) (v3 : V) (z : Int), Same H H3 → Kn X H3 → v3 = .int z → tRet (tOp (rI (fun _ j => j ≠ 0) fun i j => .int (i.fmod j)) (tOp (rI CMul fun i j => .int (i * j)) (tOp (rI (fun _ j => j ≠ 0) fun i j => .int (i.fmod j)) (tOp (rI CMul fun i j => .int (i * j)) (tVar 2) (tC (.int 48271))) (tC (.int 65537))) (tOp (rI0 fun i j => .int (i + j)) (tVar 1) (tC (.int 5)))) (tC (.int 65521))) { nx := fun _ H' => Q .non H', rt := Q } [some u1, some u2, some v3] H3 := fun H3 v3 z s3 k3 e3 => by
        subst e3
        refine s_ret k3 (ev_mod (n := 65521) (ev_mulR (ev_mod (n := 65537) (ev_mulR (i := z) (ev_var rfl rfl) ev_int (by omega)) ev_int (by omega)) (ev_addI (ev_var rfl (rsm s3 h2)) ev_int) (by omega)) ev_int (by omega)) fun H4 v4 s4 o4 => post H4 v4 (s3.trans s4) ⟨_, trivial, o4⟩
      refine s_if k2 (et_test (ev_I0 (ev_lenS (ev_var rfl (rsm s02 h1))) ev_int)) (fun hb2 H3 s3 => ?_) fun hb2 H3 s3 => ?_
      · have hp : 0 < xs.length := by have := of_decide_eq_true hb2; omega
        have hm : i % xs.length < xs.length := Nat.mod_lt _ hp
        refine s_set1 (k2.same s3) (ev_addI (ev_var rfl (rsm s3 o2)) (ev_mod (n := 65519) (ev_ixS (i := i % xs.length) (ev_var rfl (rsm (s02.trans s3) h1)) ((ev_mod (ev_var rfl (rsm (s02.trans s3) h2)) (ev_lenS (ev_var rfl (rsm (s02.trans s3) h1))) hp).eq (by rw [← Int.natCast_emod])) (List.getElem?_eq_getElem hm)) ev_int (by omega))) fun H4 v4 s4 o4 => fin H4 v4 _ ((s02.trans s3).trans s4) ((k2.same s3).same s4) o4
      · exact fin H3 v2 _ (s02.trans s3) (k2.same s3) o2
/-! def _law_bag: slots 0=_law_script 1=_law_at 2=_law_cell_here -/
abbrev N_law_bag : List Str := ["_law_script", "_law_at", "_law_cell_here"]
theorem sc_law_bag : FnScope N_law_bag ["_law_script", "_law_at"] (defScope (topS 57)) := ⟨rfl, rfl, rfl, by decide +kernel, rfl, by decide +kernel, by decide +kernel⟩
def sp_law_bag (K : PySem.W.Frag) : L2.Sp := fun vs H Q _ => ∃ (i : List Int × Nat) (X : AX), Kn X H ∧ (i.2 ≤ 1000 ∧ a2 (oS K i.1) (oN i.2) X H vs) ∧ ∀ H1 l, Same H H1 → H l = none → Bg H1 l (i.2 + 1) → Q (.ref l) H1
/-- a new bag -/
def EvB (te : TE) (σ : L2.St) (X : AX) (H : Hp) (N : Nat) : Prop := ∀ Y H1, Lt X H Y H1 → ∀ Q : VK, (∀ H2 l, Same H1 H2 → H1 l = none → Bg H2 l N → Q (.ref l) H2) → te σ H1 Q
theorem eb_law_bag {xs : List Int} {k : Nat} (hk : k ≤ 1000) (h1 : EvP ta σ X H (oS K xs)) (h2 : EvP tb σ X H (oN k)) : EvB (tCall (sp_law_bag K) [] E0 (tCons ta (tCons tb tNil))) σ X H (k + 1) := fun Y H1 lt Q q =>
  (ea2 h1 h2) Y H1 lt _ fun H2 vs s p => ⟨(xs, k), Y, lt.kn.same s, ⟨hk, by rw [List.append_nil]; exact p⟩, fun H3 l s3 n g => q H3 l (s.trans s3) (s.free n) g⟩
theorem ev_abs {a : Int} (h1 : EvP ta σ X H (oI a)) : EvP (tCB (fun xs H Q => ∃ i, xs = [.int i] ∧ Q (.int (if i < 0 then -i else i)) H) (tCons ta tNil)) σ X H (oI (if a < 0 then -a else a)) := fun Y H1 l Q q =>
  h1 Y H1 l _ fun H2 v s o => by
    have e : v = .int a := o
    subst e
    exact ⟨a, rfl, q H2 _ s rfl⟩
theorem c_law_bag (c_law_cell : Ct w K mg base 1 "_law_cell" (sp_law_cell K)) (T : Tp K mg) : Ct w K mg base 2 "_law_bag" (sp_law_bag K) := by
  refine ct_mk T (i := 57) (by decide) sc_law_bag (fun _ _ _ _ _ _ us hl => match us, hl with | [_, _], _ => rfl) (fun vs H Q E h => ?_) fun f cdv A outer s H vs Q E hr h => ?_
  · obtain ⟨i, X, _, ⟨_, p⟩, _⟩ := h
    exact a2_len p
  · obtain ⟨⟨xs, i⟩, X, k, ⟨hi, u1, u2, rfl, h1, h2⟩, post⟩ := h
    dsimp only at hi h1 h2 post
    have nd := sc_law_bag.nd
    refine ⟨_, PSs.nox (pss_cons (ps_set (i := 2) nd rfl (.inl rfl) (pe_ct c_law_cell hr (by decide) (by rfl) (pa_cons (pv 0) (pa_cons (pv 1) pa_nil))))
  (pss_cons (ps_if (pt_cmpR op_ge (pe_callB call_abs (by rfl) (T.fr "abs" (by decide)) (by decide +kernel) (pa_cons (pv 2) pa_nil)) (pe_op op_pow pe_int pe_int) (nomark _))
    (pss_one (ps_ret (pe_lst (pa_cons (pe_callB call_abs (by rfl) (T.fr "abs" (by decide)) (by decide +kernel) (pa_cons (pv 2) pa_nil)) (pa_cons pe_int pa_nil))))) pss_nil)
  (pss_one (ps_ret (pe_lst (pa_cons (pe_op op_modN (pv 2) pe_int) (pa_cons (pe_op op_add (pv 1) pe_int) pa_nil))))))), ?_⟩
    refine s_set k (ev_law_cell hi (ev_var rfl h1) (ev_var rfl h2)) fun H1 v1 s1 ⟨c, _, o1⟩ => ?_
    have k1 := k.same s1
    refine s_if k1 (et_test (ev_I0 (ev_abs (ev_var rfl o1)) (ev_I ev_int ev_int (by unfold CPow; decide)))) (fun hb H2 s2 => ?_) fun hb H2 s2 => ?_
    · exact (en_two (R := fun x : Int => oI x) (ev_abs (ev_var rfl (rsm s2 o1))) ev_int) X H2 (Lt.refl (k1.same s2)) _ fun H3 l vs s3 n e it => by
        have ev := it.flat (f := fun x : Int => V.int x)
        subst ev
        exact post H3 l ((s1.trans s2).trans s3) ((s1.trans s2).free n) ⟨_, 0, e, by omega, by omega⟩
    · exact (en_two (R := fun x : Int => oI x) (ev_mod (n := 2147483647) (ev_var rfl (rsm s2 o1)) ev_int (by omega)) (ev_addI (ev_var rfl (rsm (s1.trans s2) h2)) ev_int)) X H2 (Lt.refl (k1.same s2)) _ fun H3 l vs s3 n e it => by
        have ev := it.flat (f := fun x : Int => V.int x)
        subst ev
        exact post H3 l ((s1.trans s2).trans s3) ((s1.trans s2).free n) ⟨_, (i : Int) + 1, e, by omega, by omega⟩
/-! def _law_take: slots 0=_law_bag_here 1=_law_many 2=_law_digit -/
abbrev N_law_take : List Str := ["_law_bag_here", "_law_many", "_law_digit"]
theorem sc_law_take : FnScope N_law_take ["_law_bag_here", "_law_many"] (defScope (topS 58)) := ⟨rfl, rfl, rfl, by decide +kernel, rfl, by decide +kernel, by decide +kernel⟩
def sp_law_take : L2.Sp := fun vs H Q _ => ∃ (l : Addr) (m N : Nat), vs = [.ref l, .int m] ∧ (0 < m ∧ m < 1073741824 ∧ N ≤ 1000000) ∧ Bg H l N ∧ ∀ H1 (d : Nat), But l H H1 → Bg H1 l (N + 1) → d < m → Q (.int d) H1
theorem eg_law_take {m : Nat} (hm : 0 < m ∧ m < 1073741824 ∧ N ≤ 1000000) (h1 : EvP ta σ X H (oV (.ref l))) (h2 : EvP tb σ X H (oN m)) : EvG (tCall sp_law_take [] E0 (tCons ta (tCons tb tNil))) σ l X H N (oEx (fun d : Nat => oN d) fun d => d < m) (N + 1) := fun Y H1 lt hl bg Q q =>
  (ea2 h1 h2) Y H1 lt _ fun H2 vs s p => by
    obtain ⟨x, y, rfl, e1, e2⟩ := p
    have e1 : x = .ref l := e1
    have e2 : y = .int m := e2
    subst e1 e2
    exact ⟨l, m, N, rfl, hm, bg.same s, fun H3 d b g hd => q H3 _ ((But.of s).trans b) g ⟨d, hd, rfl⟩⟩
theorem bag_rep {b0 b1 : Int} (e : H l = some (.lst [.int b0, .int b1])) : oL (fun x : Int => oI x) [b0, b1] (fun _ => False) H (.ref l) :=
  oL.mk (fun z => z) e (Its.of_flat (f := fun x : Int => V.int x) (xs := [b0, b1])) (by simp)
theorem kn0 : Kn (fun _ => False) H := fun _ h => h.elim
theorem c_law_take (T : Tp K mg) : Ct w K mg base 1 "_law_take" sp_law_take := by
  refine ct_mk T (i := 58) (by decide) sc_law_take (fun _ _ _ _ _ _ us hl => match us, hl with | [_, _], _ => rfl) (fun vs H Q E h => ?_) fun f cdv A outer s H vs Q E hr h => ?_
  · obtain ⟨l, m, N, rfl, _⟩ := h
    rfl
  · obtain ⟨l, m, N, rfl, ⟨hm, hm2, hN⟩, ⟨b0, b1, e, hb0, hb1⟩, post⟩ := h
    have nd := sc_law_take.nd
    refine ⟨_, PSs.nox (pss_cons (ps_if (pt_cmpR op_eq (pe_ix (ix_listK K) (pv 0) pe_int (fun _ _ => rfl)) pe_int (nomark _))
    (pss_cons (ps_set (i := 2) nd rfl (.inl rfl) (pe_op op_modN (pe_ix (ix_listK K) (pv 0) pe_int (fun _ _ => rfl)) (pv 1)))
  (pss_cons (ps_asg (pe_op op_fdivN (pe_ix (ix_listK K) (pv 0) pe_int (fun _ _ => rfl)) (pv 1)) (pg_sub (pv 0) pe_int set_list))
  (pss_one (ps_ret (pv 2))))) pss_nil)
  (pss_cons (ps_asg (pe_op op_modN (pe_op op_add (pe_op op_add (pe_op op_mul (pe_ix (ix_listK K) (pv 0) pe_int (fun _ _ => rfl)) pe_int) (pe_op op_mul (pe_op op_mul pe_int (pe_ix (ix_listK K) (pv 0) pe_int (fun _ _ => rfl))) (pe_ix (ix_listK K) (pv 0) pe_int (fun _ _ => rfl)))) pe_int) pe_int) (pg_sub (pv 0) pe_int set_list))
  (pss_cons (ps_asg (pe_op op_add (pe_ix (ix_listK K) (pv 0) pe_int (fun _ _ => rfl)) pe_int) (pg_sub (pv 0) pe_int set_list))
  (pss_one (ps_ret (pe_op op_modN (pe_op op_fdivN (pe_op op_modN (pe_op op_mul (pe_ix (ix_listK K) (pv 0) pe_int (fun _ _ => rfl)) pe_int) pe_int) pe_int) (pv 1))))))), ?_⟩
    have k : Kn (fun _ => False) H := kn0
    have ix0 : ∀ {H : Hp} {σ : L2.St} {b0 b1 : Int}, σ[0]? = some (some (V.ref l)) → H l = some (.lst [.int b0, .int b1]) → EvP (tOp (rIxL K) (tVar 0) (tC (.int 0))) σ (fun _ => False) H (oI b0) := fun e0 e => ev_ix (R := fun x : Int => oI x) (i := 0) (ev_var e0 (bag_rep e)) ev_nat rfl
    have ix1 : ∀ {H : Hp} {σ : L2.St} {b0 b1 : Int}, σ[0]? = some (some (V.ref l)) → H l = some (.lst [.int b0, .int b1]) → EvP (tOp (rIxL K) (tVar 0) (tC (.int 1))) σ (fun _ => False) H (oI b1) := fun e0 e => ev_ix (R := fun x : Int => oI x) (i := 1) (ev_var e0 (bag_rep e)) ev_nat rfl
    refine s_if k (et_test (ev_eq (ix1 rfl e) ev_int rfl)) (fun hb H1 s1 => ?_) fun hb H1 s1 => ?_
    · have hz : b1 = 0 := by simpa using hb
      have e1 := s1 _ _ e
      refine s_set kn0 (ev_mod (ix0 rfl e1) (ev_var rfl (rfl : oN m _ _ _)) hm) fun H2 v2 s2 o2 => ?_
      have e2 := s2 _ _ e1
      refine s_put (X := fun _ => False) (j := 0) (O := oI (b0 / m)) kn0 rfl e2 (by simp) (ev_div (ix0 rfl e2) (ev_var rfl (rfl : oN m _ _ _)) hm hm2) ev_nat fun H3 v3 s3 o3 => ?_
      have ev3 : v3 = .int (b0 / m) := o3
      subst ev3
      have hnn : 0 ≤ b0 % (m : Int) := Int.emod_nonneg _ (by omega)
      have hlt : b0 % (m : Int) < m := Int.emod_lt_of_pos _ (by omega)
      refine s_ret (X := fun _ => False) (O := oN (b0 % (m : Int)).toNat) kn0 (ev_var rfl (by show v2 = .int _; rw [Int.toNat_of_nonneg hnn]; exact o2)) fun H4 v4 s4 o4 => ?_
      have ev4 : v4 = .int (((b0 % (m : Int)).toNat : Nat) : Int) := o4
      subst ev4
      refine post H4 _ ((((But.of s1).trans (But.of s2)).trans (But.of s3)).trans (But.upd.trans (But.of s4))) ⟨_, b1, s4 _ _ upd_same, hb0, by omega⟩ (by omega)
    · have e1 := s1 _ _ e
      have hN64 : (N : Int) ≤ 1000000 := by omega
      refine s_put (X := fun _ => False) (j := 0) (O := oI ((b0 * 48271 + 7919 * b1 * b1 + 17) % (2147483647 : Nat))) kn0 rfl e1 (by simp) (ev_mod (n := 2147483647) (ev_addI (ev_addI (ev_mulR (ix0 rfl e1) ev_int (by omega)) (ev_mulR (ev_mulL ev_int (ix1 rfl e1) (by omega)) (ix1 rfl e1) (by omega))) ev_int) ev_int (by omega)) ev_nat fun H2 v2 s2 o2 => ?_
      have ev2 : v2 = .int ((b0 * 48271 + 7919 * b1 * b1 + 17) % (2147483647 : Nat)) := o2
      subst ev2
      generalize (b0 * 48271 + 7919 * b1 * b1 + 17) % ((2147483647 : Nat) : Int) = c0
      have e3 : (upd H2 l (.lst ([V.int b0, .int b1].set 0 (.int c0)))) l = some (.lst [.int c0, .int b1]) := upd_same
      refine s_put (X := fun _ => False) (j := 1) (O := oI (b1 + 1)) kn0 rfl e3 (by simp) (ev_addI (ix1 rfl e3) ev_int) ev_nat fun H4 v4 s4 o4 => ?_
      have ev4 : v4 = .int (b1 + 1) := o4
      subst ev4
      have e5 : (upd H4 l (.lst ([V.int c0, .int b1].set 1 (.int (b1 + 1))))) l = some (.lst [.int c0, .int (b1 + 1)]) := upd_same
      have hnn : ∀ z : Int, 0 ≤ z % (m : Int) := fun z => Int.emod_nonneg _ (by omega)
      have hlt : ∀ z : Int, z % (m : Int) < m := fun z => Int.emod_lt_of_pos _ (by omega)
      refine s_ret (X := fun _ => False) kn0 (ev_mod (ev_div (n := 8) (ev_mod (n := 2147483629) (ev_mulR (ix0 rfl e5) ev_int (by omega)) ev_int (by omega)) ev_int (by omega) (by omega)) (ev_var rfl (rfl : oN m _ _ _)) hm) fun H6 v6 s6 o6 => ?_
      generalize (c0 * 69621 % ((2147483629 : Nat) : Int) / ((8 : Nat) : Int)) = z at o6
      have ev6 : v6 = .int ((z % (m : Int)).toNat : Nat) := by rw [Int.toNat_of_nonneg (hnn z)]; exact o6
      subst ev6
      have := hlt z
      have := hnn z
      refine post H6 _ ((((But.of s1).trans (But.of s2)).trans But.upd).trans (((But.of s4).trans But.upd).trans (But.of s6))) ⟨_, b1 + 1, s6 _ _ e5, by omega, by omega⟩ (by omega)
end
end Still

set_option Elab.async false
set_option linter.all false
set_option maxRecDepth 100000
set_option maxHeartbeats 4000000
namespace Still
open PySem PySem.Spec PyProof.Rows L2
section
variable {w : World} {K : PySem.W.Frag} {mg : Str → Option Value} {base : Heap}
variable {σ : L2.St} {X : AX} {H : Hp} {ta tb tc td te tf tg' : TE} {t u : TS} {D : Ends} {l : Addr} {N N' : Nat} {A B O : Ob}
/-! list displays -/
def EvL {α : Type} (ts : TA) (σ : L2.St) (X : AX) (H : Hp) (R : α → Ob) (xs : List α) : Prop := EvA ts σ X H fun X H vs => Its R X H vs xs
theorem el_nil {α : Type} {R : α → Ob} : EvL tNil σ X H R [] := fun Y H1 l Q q => q H1 [] (Same.refl _) Its.nil
theorem Its.cons {α : Type} {R : α → Ob} {u : V} {x : α} {vs : List V} {xs : List α} (k : R x X H u) (h : Its R X H vs xs) : Its R X H (u :: vs) (x :: xs) := by
  refine ⟨by rw [List.length_cons, List.length_cons, h.1], fun i v y e1 e2 => ?_⟩
  cases i with
  | zero =>
    have e1 : some u = some v := e1
    have e2 : some x = some y := e2
    cases e1
    cases e2
    exact k
  | succ i => exact h.2 i v y e1 e2
theorem el_cons {α : Type} {R : α → Ob} [∀ x, Rep (R x)] {x : α} {xs : List α} {ts : TA} (h : EvP ta σ X H (R x)) (hs : EvL ts σ X H R xs) : EvL (tCons ta ts) σ X H R (x :: xs) := fun Y H1 l Q q =>
  h Y H1 l _ fun H2 v s o => hs Y H2 (l.same s) _ fun H3 vs s3 it => q H3 (v :: vs) (s.trans s3) (Its.cons (rsm s3 o) it)
theorem en_lst {α : Type} {R : α → Ob} [∀ x, Rep (R x)] {xs : List α} {ts : TA} (h : EvL ts σ X H R xs) (b : xs.length ≤ 5000) : EvN (tLst ts) σ X H R xs := fun Y H1 l Q q =>
  h Y H1 l _ fun H2 vs s it => ⟨Nat.le_of_lt (line5 (by rw [it.1]; exact b)), fun p np => q _ p vs (s.trans (same_new np)) (s.free np) upd_same (it.new (l.kn.same s) np)⟩
theorem eg_ix {α : Type} {R : α → Ob} {xs : List α} [∀ x, Rep (R x)] (ha : EvP ta σ X H (oL R xs)) (hb : EvG tb σ l X H N (oEx (fun d : Nat => oN d) fun d => d < xs.length) N') : EvG (tOp (rIxL K) ta tb) σ l X H N (oEx R fun x => x ∈ xs) N' :=
  eg_op ha hb fun Y H1 v w l o e Q q => by
    obtain ⟨a, vs, rfl, n, e1, it, b⟩ := o.its
    obtain ⟨d, hd, ew⟩ := e
    have ew : w = .int (d : Int) := ew
    subst ew
    obtain ⟨u, e3, r⟩ := it.get (List.getElem?_eq_getElem hd)
    exact ⟨a, vs, d, u, rfl, rfl, .inl (.inl e1), atI_nat e3, q H1 u (Same.refl _) ⟨_, List.getElem_mem hd, r⟩⟩
theorem s_retG (k : Kn X H) (hl : X l) (g : Bg H l N) (h : EvG te σ l X H N O N') (next : ∀ H1 v, But l H H1 → Bg H1 l N' → O X H1 v → D.rt v H1) : tRet te D σ H :=
  h X H (Lt.refl k) hl g _ fun H1 v b g1 o => next H1 v b g1 o
def FitQ (z : Pm × Nat) : Prop := 1 ≤ z.2 ∧ z.2 ≤ 5 ∧ z.1.n ^ z.2 ≤ 5000
def fitA : List (Pm × Nat) := [(Pm.p2, 1), (Pm.p2, 2), (Pm.p2, 3), (Pm.p2, 4), (Pm.p2, 5), (Pm.p3, 1), (Pm.p3, 2), (Pm.p3, 3), (Pm.p3, 4), (Pm.p5, 1), (Pm.p5, 2), (Pm.p5, 3), (Pm.p7, 1)]
def fitB : List (Pm × Nat) := [(Pm.p7, 2), (Pm.p7, 3), (Pm.p11, 1), (Pm.p11, 2)]
theorem fit_ok : ∀ z, z ∈ fitA ++ fitB → FitQ z := by
  intro z hz
  unfold fitA fitB at hz
  simp only [List.cons_append, List.nil_append, List.mem_cons, List.not_mem_nil, or_false] at hz
  unfold FitQ
  rcases hz with rfl | rfl | rfl | rfl | rfl | rfl | rfl | rfl | rfl | rfl | rfl | rfl | rfl | rfl | rfl | rfl | rfl <;> decide
/-! def _law_fit: slots 0=_law_bag_here 1=_law_pairs -/
abbrev N_law_fit : List Str := ["_law_bag_here", "_law_pairs"]
theorem sc_law_fit : FnScope N_law_fit ["_law_bag_here"] (defScope (topS 65)) := ⟨rfl, rfl, rfl, by decide +kernel, rfl, by decide +kernel, by decide +kernel⟩
def oFit (z : Pm × Nat) : Ob := oP (oN z.1.n) (oN z.2)
instance (z : Pm × Nat) : Rep (oFit z) := inferInstanceAs (Rep (oP (oN z.1.n) (oN z.2)))
def sp_law_fit : L2.Sp := fun vs H Q _ => ∃ (l : Addr) (X : AX) (N : Nat), Kn X H ∧ vs = [.ref l] ∧ X l ∧ N ≤ 1000000 ∧ Bg H l N ∧ ∀ H1 v z, But l H H1 → Bg H1 l (N + 1) → FitQ z → oFit z X H1 v → Q v H1
theorem eg_law_fit (hN : N ≤ 1000000) (h1 : EvP ta σ X H (oV (.ref l))) : EvG (tCall sp_law_fit [] E0 (tCons ta tNil)) σ l X H N (oEx oFit FitQ) (N + 1) := fun Y H1 lt hl bg Q q =>
  (ea1 h1) Y H1 lt _ fun H2 vs s ⟨x, e, e1⟩ => by
    subst e
    have e1 : x = .ref l := e1
    subst e1
    exact ⟨l, Y, N, lt.kn.same s, rfl, hl, hN, bg.same s, fun H3 v z b g hz o => q H3 v ((But.of s).trans b) g ⟨z, hz, o⟩⟩
theorem c_law_fit (c_law_take : Ct w K mg base 1 "_law_take" sp_law_take) (T : Tp K mg) : Ct w K mg base 2 "_law_fit" sp_law_fit := by
  refine ct_mk T (i := 65) (by decide) sc_law_fit (fun _ _ _ _ _ _ us hl => match us, hl with | [_], _ => rfl) (fun vs H Q E h => ?_) fun f cdv A outer s H vs Q E hr h => ?_
  · obtain ⟨l, X, N, _, rfl, _⟩ := h
    rfl
  · obtain ⟨l, X, N, k, rfl, hl, hN, bg, post⟩ := h
    have nd := sc_law_fit.nd
    refine ⟨_, PSs.nox (pss_cons (ps_set (i := 1) nd rfl (.inl rfl) (pe_lst (pa_cons (pe_tup (pa_cons pe_int (pa_cons pe_int pa_nil))) (pa_cons (pe_tup (pa_cons pe_int (pa_cons pe_int pa_nil))) (pa_cons (pe_tup (pa_cons pe_int (pa_cons pe_int pa_nil))) (pa_cons (pe_tup (pa_cons pe_int (pa_cons pe_int pa_nil))) (pa_cons (pe_tup (pa_cons pe_int (pa_cons pe_int pa_nil))) (pa_cons (pe_tup (pa_cons pe_int (pa_cons pe_int pa_nil))) (pa_cons (pe_tup (pa_cons pe_int (pa_cons pe_int pa_nil))) (pa_cons (pe_tup (pa_cons pe_int (pa_cons pe_int pa_nil))) (pa_cons (pe_tup (pa_cons pe_int (pa_cons pe_int pa_nil))) (pa_cons (pe_tup (pa_cons pe_int (pa_cons pe_int pa_nil))) (pa_cons (pe_tup (pa_cons pe_int (pa_cons pe_int pa_nil))) (pa_cons (pe_tup (pa_cons pe_int (pa_cons pe_int pa_nil))) (pa_cons (pe_tup (pa_cons pe_int (pa_cons pe_int pa_nil))) pa_nil)))))))))))))))
  (pss_cons (ps_set (i := 1) nd rfl (.inl rfl) (pe_op op_cat (pv 1) (pe_lst (pa_cons (pe_tup (pa_cons pe_int (pa_cons pe_int pa_nil))) (pa_cons (pe_tup (pa_cons pe_int (pa_cons pe_int pa_nil))) (pa_cons (pe_tup (pa_cons pe_int (pa_cons pe_int pa_nil))) (pa_cons (pe_tup (pa_cons pe_int (pa_cons pe_int pa_nil))) pa_nil)))))))
  (pss_one (ps_ret (pe_ix (ix_listK K) (pv 1) (pe_ct c_law_take hr (by decide) (by rfl) (pa_cons (pv 0) (pa_cons pe_int pa_nil))) (fun _ _ => rfl)))))), ?_⟩
    refine s_set k ((en_lst (R := oFit) (xs := fitA) (el_cons (ev_tup2 (ev_nat (n := 2)) (ev_nat (n := 1))) (el_cons (ev_tup2 (ev_nat (n := 2)) (ev_nat (n := 2))) (el_cons (ev_tup2 (ev_nat (n := 2)) (ev_nat (n := 3))) (el_cons (ev_tup2 (ev_nat (n := 2)) (ev_nat (n := 4))) (el_cons (ev_tup2 (ev_nat (n := 2)) (ev_nat (n := 5))) (el_cons (ev_tup2 (ev_nat (n := 3)) (ev_nat (n := 1))) (el_cons (ev_tup2 (ev_nat (n := 3)) (ev_nat (n := 2))) (el_cons (ev_tup2 (ev_nat (n := 3)) (ev_nat (n := 3))) (el_cons (ev_tup2 (ev_nat (n := 3)) (ev_nat (n := 4))) (el_cons (ev_tup2 (ev_nat (n := 5)) (ev_nat (n := 1))) (el_cons (ev_tup2 (ev_nat (n := 5)) (ev_nat (n := 2))) (el_cons (ev_tup2 (ev_nat (n := 5)) (ev_nat (n := 3))) (el_cons (ev_tup2 (ev_nat (n := 7)) (ev_nat (n := 1))) el_nil))))))))))))) (by decide)).ev (by decide)) fun H1 v1 s1 o1 => ?_
    have k1 := k.same s1
    refine s_set k1 ((en_cat (ev_var rfl o1) ((en_lst (R := oFit) (xs := fitB) (el_cons (ev_tup2 (ev_nat (n := 7)) (ev_nat (n := 2))) (el_cons (ev_tup2 (ev_nat (n := 7)) (ev_nat (n := 3))) (el_cons (ev_tup2 (ev_nat (n := 11)) (ev_nat (n := 1))) (el_cons (ev_tup2 (ev_nat (n := 11)) (ev_nat (n := 2))) el_nil)))) (by decide)).ev (by decide))).ev (by decide)) fun H2 v2 s2 o2 => ?_
    have k2 := k1.same s2
    refine s_retG k2 hl ((bg.same s1).same s2) (eg_ix (ev_var rfl o2) (eg_law_take (m := 17) ⟨by decide, by decide, hN⟩ (ev_var rfl rfl) ev_nat)) fun H3 v3 b g ⟨z, hz, o3⟩ => post H3 v3 z (((But.of s1).trans (But.of s2)).trans b) g (fit_ok z hz) o3
/-! def _law_number: slots 0=_law_p 1=_law_size 2=_law_kind 3=_law_cut 4=_law_i 5=_law_j 6=_law_bag_here 7=_law_number_here -/
abbrev N_law_number : List Str := ["_law_p", "_law_size", "_law_kind", "_law_cut", "_law_i", "_law_j", "_law_bag_here", "_law_number_here"]
theorem sc_law_number : FnScope N_law_number ["_law_p", "_law_size", "_law_kind", "_law_cut", "_law_i", "_law_j", "_law_bag_here"] (defScope (topS 66)) := ⟨rfl, rfl, rfl, by decide +kernel, rfl, by decide +kernel, by decide +kernel⟩
structure NumI where
  size : Nat
  kind : Nat
  cut : Nat
  i : Nat
  j : Nat
def sp_law_number : L2.Sp := fun vs H Q _ => ∃ (l : Addr) (q : Pm) (a : NumI) (N : Nat), vs = [.int q.n, .int a.size, .int a.kind, .int a.cut, .int a.i, .int a.j, .ref l] ∧ N ≤ 1000000 ∧ Bg H l N ∧ ∀ H1 (c : Fq q), But l H H1 → Bg H1 l (N + 1) → Q (.int (vl c)) H1
theorem eg_law_number {q : Pm} {a : NumI} (hN : N ≤ 1000000) (h1 : EvP ta σ X H (oN q.n)) (h2 : EvP tb σ X H (oN a.size)) (h3 : EvP tc σ X H (oN a.kind)) (h4 : EvP td σ X H (oN a.cut)) (h5 : EvP te σ X H (oN a.i)) (h6 : EvP tf σ X H (oN a.j)) (h7 : EvP tg' σ X H (oV (.ref l))) :
    EvG (tCall sp_law_number [] E0 (tCons ta (tCons tb (tCons tc (tCons td (tCons te (tCons tf (tCons tg' tNil)))))))) σ l X H N (oEx (fun c : Fq q => oF c) fun _ => True) (N + 1) := fun Y H1 lt hl bg Q qq =>
  h1 Y H1 lt _ fun H2 v1 s1 e1 => h2 Y H2 (lt.same s1) _ fun H3 v2 s2 e2 => h3 Y H3 ((lt.same s1).same s2) _ fun H4 v3 s3 e3 => h4 Y H4 (((lt.same s1).same s2).same s3) _ fun H5 v4 s4 e4 => h5 Y H5 ((((lt.same s1).same s2).same s3).same s4) _ fun H6 v5 s5 e5 =>
    h6 Y H6 (((((lt.same s1).same s2).same s3).same s4).same s5) _ fun H7 v6 s6 e6 => h7 Y H7 ((((((lt.same s1).same s2).same s3).same s4).same s5).same s6) _ fun H8 v7 s7 e7 => by
      have e1 : v1 = _ := e1
      have e2 : v2 = _ := e2
      have e3 : v3 = _ := e3
      have e4 : v4 = _ := e4
      have e5 : v5 = _ := e5
      have e6 : v6 = _ := e6
      have e7 : v7 = _ := e7
      subst e1 e2 e3 e4 e5 e6 e7
      have s := (((((s1.trans s2).trans s3).trans s4).trans s5).trans s6).trans s7
      exact ⟨l, q, a, N, rfl, hN, bg.same s, fun H9 c b g => qq H9 _ ((But.of s).trans b) g ⟨c, trivial, rfl⟩⟩
theorem ev_subI {a b : Int} (h1 : EvP ta σ X H (oI a)) (h2 : EvP tb σ X H (oI b)) : EvP (tOp (rI0 fun i j => .int (i - j)) ta tb) σ X H (oI (a - b)) := ev_I0 h1 h2
theorem c_law_number (c_law_take : Ct w K mg base 1 "_law_take" sp_law_take) (T : Tp K mg) : Ct w K mg base 2 "_law_number" sp_law_number := by
  refine ct_mk T (i := 66) (by decide) sc_law_number (fun _ _ _ _ _ _ us hl => match us, hl with | [_, _, _, _, _, _, _], _ => rfl) (fun vs H Q E h => ?_) fun f cdv A outer s H vs Q E hr h => ?_
  · obtain ⟨l, q, a, N, rfl, _⟩ := h
    rfl
  · obtain ⟨l, q, ⟨size, kind, cut, i, j⟩, N, rfl, hN, bg, post⟩ := h
    dsimp only
    have nd := sc_law_number.nd
    refine ⟨_, PSs.nox (pss_cons (ps_set (i := 7) nd rfl (.inl rfl) (pe_ct c_law_take hr (by decide) (by rfl) (pa_cons (pv 6) (pa_cons (pv 0) pa_nil))))
  (pss_cons (ps_if (PW.pt (pw_or (PW.pt (pw_and (pt_cmpR op_eq (pv 2) pe_int (nomark _)) (pw_and (pt_cmpR op_ge (pv 4) (pv 3) (nomark _)) (pw_and1 (pt_cmpR op_lt (pv 5) (pv 3) (nomark _)))))) (pw_or1 (PW.pt (pw_and (pt_cmpR op_eq (pv 2) pe_int (nomark _)) (pw_and1 (pt_cmpR op_ne (pe_callTy call_int1 (by rfl) (T.fr "int" (by decide)) boot_int (pa_cons (pe_cmpR op_ge (pv 4) (pv 3) (nomark _)) pa_nil)) (pe_callTy call_int1 (by rfl) (T.fr "int" (by decide)) boot_int (pa_cons (pe_cmpR op_ge (pv 5) (pv 3) (nomark _)) pa_nil)) (nomark _))))))))
    (pss_one (ps_ret pe_int)) pss_nil)
  (pss_cons (ps_if (PW.pt (pw_or (PW.pt (pw_and (pt_cmpR op_eq (pv 2) pe_int (nomark _)) (pw_and1 (pt_cmpR op_le (pv 5) (pv 4) (nomark _))))) (pw_or1 (PW.pt (pw_and (pt_cmpR op_eq (pv 2) pe_int (nomark _)) (pw_and1 (pt_cmpR op_ne (pv 4) (pv 5) (nomark _))))))))
    (pss_one (ps_ret pe_int)) pss_nil)
  (pss_cons (ps_if (PW.pt (pw_and (pt_cmpR op_eq (pv 2) pe_int (nomark _)) (pw_and1 (pt_cmpR op_lt (pv 4) (pe_op op_sub (pv 1) pe_int) (nomark _)))))
    (pss_one (ps_ret (pe_callTy call_int1 (by rfl) (T.fr "int" (by decide)) boot_int (pa_cons (pe_cmpR op_eq (pv 5) (pe_op op_add (pv 4) pe_int) (nomark _)) pa_nil)))) pss_nil)
  (pss_one (ps_ret (pv 7))))))), ?_⟩
    have hq := q.pos
    let X : AX := fun a => a = l
    have k : Kn X H := fun a h => by rw [h]; exact bg.ne
    refine s_setG (X := X) k rfl bg (eg_law_take ⟨by omega, by omega, hN⟩ (ev_var rfl rfl) (ev_var rfl (rfl : oN q.n _ _ _))) fun H1 v1 b1 g1 l1 ⟨d, hd, e1⟩ => ?_
    have e1 : v1 = .int (d : Int) := e1
    subst e1
    have k1 := l1.kn
    have z0 : ∀ H2, Same H1 H2 → Q (.int 0) H2 := fun H2 s2 => by
      have := post H2 (0 : Fq q) (b1.trans (But.of s2)) (g1.same s2)
      rw [vl_zero] at this
      exact this
    have ret0 : ∀ H2, Same H1 H2 → ∀ D : Ends, D.rt = Q → tRet (tC (.int 0)) D [some (.int (q.n : Int)), some (.int (size : Int)), some (.int (kind : Int)), some (.int (cut : Int)), some (.int (i : Int)), some (.int (j : Int)), some (.ref l), some (.int (d : Int))] H2 := fun H2 s2 D hD =>
      s_ret (k1.same s2) ev_int fun H3 v3 s3 o3 => by
        have e3 : v3 = .int 0 := o3
        subst e3
        rw [hD]
        exact z0 H3 (s2.trans s3)
    have n1 : ∀ {X : AX} {H : Hp} {v : V} {n : Nat}, v = .int (n : Int) → oN n X H v := fun e => e
    refine s_if k1 (et_or (et_and (et_test (ev_eq (ev_var rfl (n1 rfl)) ev_int rfl)) fun _ => et_and (et_test (ev_I0 (ev_var rfl (n1 rfl)) (ev_var rfl (n1 rfl)))) fun _ => et_test (ev_I0 (ev_var rfl (n1 rfl)) (ev_var rfl (n1 rfl)))) fun _ => et_and (et_test (ev_eq (ev_var rfl (n1 rfl)) ev_int rfl)) fun _ => et_test (ev_ne (ev_intB (ev_I0 (ev_var rfl (n1 rfl)) (ev_var rfl (n1 rfl)))) (ev_intB (ev_I0 (ev_var rfl (n1 rfl)) (ev_var rfl (n1 rfl)))) rfl)) (fun _ H2 s2 => ret0 H2 s2 _ rfl) fun _ H2 s2 => ?_
    refine s_if (k1.same s2) (et_or (et_and (et_test (ev_eq (ev_var rfl (n1 rfl)) ev_int rfl)) fun _ => et_test (ev_I0 (ev_var rfl (n1 rfl)) (ev_var rfl (n1 rfl)))) fun _ => et_and (et_test (ev_eq (ev_var rfl (n1 rfl)) ev_int rfl)) fun _ => et_test (ev_ne (ev_var rfl (n1 rfl)) (ev_var rfl (n1 rfl)) rfl)) (fun _ H3 s3 => ret0 H3 (s2.trans s3) _ rfl) fun _ H3 s3 => ?_
    refine s_if ((k1.same s2).same s3) (et_and (et_test (ev_eq (ev_var rfl (n1 rfl)) ev_int rfl)) fun _ => et_test (ev_I0 (ev_var rfl (n1 rfl)) (ev_subI (ev_var rfl (n1 rfl)) ev_int))) (fun _ H4 s4 => ?_) fun _ H4 s4 => ?_
    · refine s_ret (((k1.same s2).same s3).same s4) (ev_intB (ev_eq (ev_var rfl (n1 rfl)) (ev_addI (ev_var rfl (n1 rfl)) ev_int) rfl)) fun H5 v5 s5 o5 => ?_
      rw [bit_of (q := q)] at o5
      have e5 : v5 = .int (vl _) := o5
      subst e5
      exact post H5 _ (b1.trans (But.of (((s2.trans s3).trans s4).trans s5))) (g1.same (((s2.trans s3).trans s4).trans s5))
    · refine s_ret (((k1.same s2).same s3).same s4) (ev_var rfl (n1 rfl)) fun H5 v5 s5 o5 => ?_
      have e5 : v5 = .int (d : Int) := o5
      subst e5
      have := post H5 (el q (d : Int)) (b1.trans (But.of (((s2.trans s3).trans s4).trans s5))) (g1.same (((s2.trans s3).trans s4).trans s5))
      rw [vl_el, Int.emod_eq_of_lt (by omega) (by omega)] at this
      exact this
end
end Still

set_option Elab.async false
set_option linter.all false
set_option maxRecDepth 100000
set_option maxHeartbeats 4000000
namespace Still
open PySem PySem.Spec PyProof.Rows L2
section
variable {w : World} {K : PySem.W.Frag} {mg : Str → Option Value} {base : Heap}
variable {σ : L2.St} {X : AX} {H : Hp} {ta tb tc td te tf tg' : TE} {t u : TS} {D : Ends} {l : Addr} {N N' : Nat} {A B O : Ob}
def fM {q : Pm} (r : List (Fq q)) : List V := r.map fun a : Fq q => V.int (vl a)
/-! def _law_added: slots 0=_law_p 1=_law_row 2=_law_rest 3=_law_other 4=_law_a 5=_law_b -/
abbrev N_law_added : List Str := ["_law_p", "_law_row", "_law_rest", "_law_other", "_law_a", "_law_b"]
theorem sc_law_added : FnScope N_law_added ["_law_p", "_law_row", "_law_rest", "_law_other"] (defScope (topS 67)) := ⟨rfl, rfl, rfl, by decide +kernel, rfl, by decide +kernel, by decide +kernel⟩
abbrev AdI (q : Pm) : Type := Fq q × List (Fq q) × List (Fq q)
def sp_law_added : L2.Sp := fun vs H Q _ => ∃ (i : (q : Pm) × AdI q) (X : AX), Kn X H ∧ (i.2.2.1.length = i.2.2.2.length ∧ a4 (oN i.1.n) (oRow i.2.2.1) (oF i.2.1) (oRow i.2.2.2) X H vs) ∧ ∀ H1 l, Same H H1 → H l = none → H1 l = some (.lst (fM (tkM i.2.2.1 (0 - i.2.1) i.2.2.2))) → Q (.ref l) H1
theorem en_law_added {q : Pm} {c : Fq q} {x y : List (Fq q)} (hl : x.length = y.length) (h1 : EvP ta σ X H (oN q.n)) (h2 : EvP tb σ X H (oRow x)) (h3 : EvP tc σ X H (oF c)) (h4 : EvP td σ X H (oRow y)) : EvN (tCall sp_law_added [] E0 (tCons ta (tCons tb (tCons tc (tCons td tNil))))) σ X H (fun a : Fq q => oF a) (tkM x (0 - c) y) := fun Y H1 lt Q qq =>
  (ea4 h1 h2 h3 h4) Y H1 lt _ fun H2 vs s p => ⟨⟨q, c, x, y⟩, Y, lt.kn.same s, ⟨hl, by rw [List.append_nil]; exact p⟩, fun H3 l s3 n e => qq H3 l _ (s.trans s3) (s.free n) e (Its.of_flat (f := fun a : Fq q => V.int (vl a)))⟩
theorem ev_law_added {q : Pm} {c : Fq q} {x y : List (Fq q)} (hl : x.length = y.length) (hb : x.length ≤ 5000) (h1 : EvP ta σ X H (oN q.n)) (h2 : EvP tb σ X H (oRow x)) (h3 : EvP tc σ X H (oF c)) (h4 : EvP td σ X H (oRow y)) : EvP (tCall sp_law_added [] E0 (tCons ta (tCons tb (tCons tc (tCons td tNil))))) σ X H (oRow (tkM x (0 - c) y)) :=
  (en_law_added hl h1 h2 h3 h4).ev (by rw [tk_len hl]; exact hb)
theorem add_sub {q : Pm} (a c b : Fq q) : (vl a + vl c * vl b) % q.n = vl (a - (0 - c) * b) := by
  rw [show vl a + vl c * vl b = vl a - (0 - vl c) * vl b by rw [Int.sub_mul, Int.zero_mul]; omega, el_sub_mul, el_neg]
theorem c_law_added (T : Tp K mg) : Ct w K mg base 1 "_law_added" sp_law_added := by
  refine ct_mk T (i := 67) (by decide) sc_law_added (fun _ _ _ _ _ _ us hl => match us, hl with | [_, _, _, _], _ => rfl) (fun vs H Q E h => ?_) fun f cdv A outer s H vs Q E hr h => ?_
  · obtain ⟨i, X, _, ⟨_, p⟩, _⟩ := h
    exact a4_len p
  · obtain ⟨⟨q, c, x, y⟩, X, k, ⟨hl, u1, u2, u3, u4, rfl, h1, h2, h3, h4⟩, post⟩ := h
    dsimp only at hl h1 h2 h3 h4 post
    have hx := oL_len h2
    have nd := sc_law_added.nd
    refine ⟨_, PSs.nox (pss_one (ps_ret (pe_lc (own := [("_law_a", 4), ("_law_b", 5)]) (g := gTup K 2 (gCons (gName 4) (gCons (gName 5) gNil))) (tt := tYes) rfl nd (pi_zipK K (by rfl) (T.fr "zip" (by decide)) (pa_cons (pv 1) (pa_cons (pv 3) pa_nil))) (blkOk_by (N := N_law_added) (sc := (defScope (topS 67))) (by decide +kernel)) (fun _ _ _ _ _ => pg_tup (by rfl) (pgs_cons (pg_name (i := 4) nd rfl (Or.inl rfl)) (pgs_cons (pg_name (i := 5) nd rfl (Or.inl rfl)) pgs_nil))) (fun _ _ _ _ _ => pts_nil) (fun _ _ _ _ _ => pe_op op_modN (pe_op op_add (pv 4) (pe_op op_mul (pv 2) (pv 5))) (pv 0))))), ?_⟩
    refine (((en_map (R' := fun x : Fq q => oF x) (fun p : Fq q × Fq q => p.1 - (0 - c) * p.2) (ei_zip (ev_var rfl h2) (ev_var rfl h4) hl) (by rw [List.length_zip]; omega) fun p hp Y H1 v l rv => ?_).eq (show _ = tkM x (0 - c) y from (zw_map (fun a b => a - (0 - c) * b) x y).symm))) X H (Lt.refl k) _ fun H1 l vs s n e it => by
      have ev := it.flat (f := fun a : Fq q => V.int (vl a))
      subst ev
      exact post H1 l s n e
    obtain ⟨a, b, ha, hb, tg⟩ := tg2 (K := K) (i := 4) (j := 5) (σ := wipe (start N_law_added [u1, u2, u3, u4]) [4, 5]) rv
    refine ⟨_, tg, rfl, ?_⟩
    exact ev_modF (i := vl p.1 + vl c * vl p.2) (ev_I0 (ev_var rfl ha) (ev_mulR (ev_var rfl (up l h3)) (ev_var rfl hb) (vl_64 p.2))) (ev_var rfl (up l h1)) (add_sub _ _ _)
/-! def _law_led: slots 0=_law_p 1=_law_row 2=_law_table 3=_law_number_here 4=_law_found 5=_law_other -/
abbrev N_law_led : List Str := ["_law_p", "_law_row", "_law_table", "_law_number_here", "_law_found", "_law_other"]
theorem sc_law_led : FnScope N_law_led ["_law_p", "_law_row", "_law_table"] (defScope (topS 68)) := ⟨rfl, rfl, rfl, by decide +kernel, rfl, by decide +kernel, by decide +kernel⟩
def sp_law_led : L2.Sp := mkSp (ι := (q : Pm) × Nat × List (Fq q) × List (List (Fq q))) (fun i X H vs => LedOk i.2.1 i.2.2.1 i.2.2.2 ∧ a3 (oN i.1.n) (oRow i.2.2.1) (oRows i.2.2.2) X H vs) (fun i => oRow (ledM i.2.2.1 i.2.2.2))
theorem ev_law_led {q : Pm} {n : Nat} {row : List (Fq q)} {A : List (List (Fq q))} (ok : LedOk n row A) (h1 : EvP ta σ X H (oN q.n)) (h2 : EvP tb σ X H (oRow row)) (h3 : EvP tc σ X H (oRows A)) :
    EvP (tCall sp_law_led [] E0 (tCons ta (tCons tb (tCons tc tNil)))) σ X H (oRow (ledM row A)) :=
  ev_call (⟨q, n, row, A⟩ : (q : Pm) × Nat × List (Fq q) × List (List (Fq q))) (EvA.pre ok (ea3 h1 h2 h3))
theorem c_law_led (c_law_added : Ct w K mg base 1 "_law_added" sp_law_added) (T : Tp K mg) : Ct w K mg base 2 "_law_led" sp_law_led := by
  refine ct_mk T (i := 68) (by decide) sc_law_led (fun _ _ _ _ _ _ us hl => match us, hl with | [_, _, _], _ => rfl) (mkSp_len fun i X H vs h => ?_) fun f cdv A outer s H vs Q E hr h => ?_
  · exact a3_len h.2
  · obtain ⟨⟨q, n, row, A⟩, X, k, ⟨⟨hl, hw, hne⟩, u1, u2, u3, rfl, h1, h2, h3⟩, post⟩ := h
    dsimp only at hl hw hne h1 h2 h3 post
    have nd := sc_law_led.nd
    refine ⟨_, PSs.nox (pss_cons (ps_setLc (i := 4) (own := [("_law_number_here", 3)]) (g := gName 3) (tt := tYes) rfl nd rfl rfl (sw_true rfl rfl rfl (by decide +kernel)) (pi_listK K (pe_ix (ix_listK K) (pv 2) pe_int (fun _ _ => rfl))) (blkOk_by (N := N_law_led) (sc := (defScope (topS 68))) (by decide +kernel)) (fun _ _ _ _ _ => pg_name (i := 3) nd rfl (Or.inl rfl)) (fun _ _ _ _ _ => pts_nil) (fun _ _ _ _ _ => pe_int))
  (pss_cons (ps_for PassesOwn.never rfl (pi_zipK K (by rfl) (T.fr "zip" (by decide)) (pa_cons (pv 1) (pa_cons (pv 2) pa_nil))) (pg_tup (by rfl) (pgs_cons (pg_name (i := 3) nd rfl (Or.inl rfl)) (pgs_cons (pg_name (i := 5) nd rfl (Or.inl rfl)) pgs_nil)))
    (pss_one (ps_set (i := 4) nd rfl (.inl rfl) (pe_ct c_law_added hr (by decide) (by rfl) (pa_cons (pv 0) (pa_cons (pv 4) (pa_cons (pv 3) (pa_cons (pv 5) pa_nil))))))))
  (pss_one (ps_ret (pv 4))))), ?_⟩
    obtain ⟨r, hr⟩ : ∃ r, A[0]? = some r := by
      cases A with
      | nil => exact absurd rfl hne
      | cons r A => exact ⟨r, rfl⟩
    have e0 : A.getD 0 [] = r := by rw [List.getD_eq_getElem?_getD, hr]; rfl
    have er := hw r (List.mem_of_getElem? hr)
    have hn : r.length ≤ 5000 := oRows_row h3 (List.mem_of_getElem? hr)
    refine s_set k (((en_map (R' := fun a : Fq q => oF a) (fun _ => (0 : Fq q)) (ei_list (ev_ix (R := fun r : List (Fq q) => oRow r) (i := 0) (ev_var rfl h3) ev_nat hr)) hn fun o ho Y H5 v5 l5 rv => ⟨_, tg1, rfl, ev_int.eq vl_0⟩).eq (List.map_const' ..)).ev (by rw [List.length_replicate]; exact hn)) fun H1 v s1 hv => ?_
    have k1 := k.same s1
    have l1 := Lt.of k s1
    refine s_for k1 (ei_zip (ev_var rfl (up l1 h2)) (ev_var rfl (up l1 h3)) hl) fun H2 s2 l2 => ?_
    refine ⟨fun i σ1 H3 => (∃ z1 z2 vf, σ1 = [some u1, some u2, some u3, z1, some vf, z2] ∧ oRow (((row.zip A).take i).foldl (fun f p => tkM f (0 - p.1) p.2) (List.replicate r.length 0)) X H3 vf) ∧ Same H H3 ∧ (((row.zip A).take i).foldl (fun f p => tkM f (0 - p.1) p.2) (List.replicate r.length 0)).length = n, ⟨⟨none, none, v, rfl, by rw [List.take_zero]; exact up l2 hv⟩, s1.trans s2, by rw [List.take_zero]; simpa using er⟩, ?_, ?_⟩
    · rintro i o σ1 H3 H4 vo ho l3 ⟨⟨z1, z2, vf, rfl, hf⟩, sa, hfl⟩ s4 hvo
      have l4 := l3.same s4
      have lk := l1.trans (l2.trans l4)
      obtain ⟨a, b, ha, hb, tg⟩ := tg2 (K := K) (i := 3) (j := 5) (σ := [some u1, some u2, some u3, z1, some vf, z2]) hvo
      have ho2 := ho
      rw [List.getElem?_zip_eq_some] at ho2
      have hm := hw _ (List.mem_of_getElem? ho2.2)
      refine tg _ ?_
      refine s_set1 l4.kn (ev_law_added (by rw [hfl, hm]) (by rw [hfl]; omega) (ev_var rfl (up lk h1)) (ev_var rfl (rsm s4 hf)) (ev_var rfl ha) (ev_var rfl hb)) fun H5 v5 s5 o5 => ?_
      refine ⟨⟨⟨_, _, _, rfl, ?_⟩, (sa.trans s4).trans s5, ?_⟩, l4.same s5⟩
      · rw [take_fold _ _ ho]
        exact o5
      · rw [take_fold _ _ ho, tk_len (by rw [hfl, hm]), hfl]
    · rintro σ1 H3 l3 ⟨⟨z1, z2, vf, rfl, hf⟩, sa, _⟩
      rw [take_all] at hf
      refine s_ret l3.kn (ev_var rfl hf) fun H5 v5 s5 o5 => post H5 v5 (sa.trans s5) ?_
      unfold ledM
      rw [e0]
      exact o5
/-! def _law_product: slots 0=_law_p 1=_law_one 2=_law_other 3=_law_row -/
abbrev N_law_product : List Str := ["_law_p", "_law_one", "_law_other", "_law_row"]
theorem sc_law_product : FnScope N_law_product ["_law_p", "_law_one", "_law_other"] (defScope (topS 69)) := ⟨rfl, rfl, rfl, by decide +kernel, rfl, by decide +kernel, by decide +kernel⟩
structure PrOk {q : Pm} (n : Nat) (A B : List (List (Fq q))) : Prop where
  a : Sq n A
  b : Sq n B
  pos : 0 < n
def sp_law_product : L2.Sp := mkSp (ι := (q : Pm) × FmI q) (fun i X H vs => PrOk i.2.1 i.2.2.1 i.2.2.2 ∧ a3 (oN i.1.n) (oRows i.2.2.1) (oRows i.2.2.2) X H vs) (fun i => oRows (i.2.2.1.map fun r => ledM r i.2.2.2))
theorem ev_law_product {q : Pm} {n : Nat} {A B : List (List (Fq q))} (ok : PrOk n A B) (h1 : EvP ta σ X H (oN q.n)) (h2 : EvP tb σ X H (oRows A)) (h3 : EvP tc σ X H (oRows B)) : EvP (tCall sp_law_product [] E0 (tCons ta (tCons tb (tCons tc tNil)))) σ X H (oRows (A.map fun r => ledM r B)) :=
  ev_call (⟨q, n, A, B⟩ : (q : Pm) × FmI q) (EvA.pre ok (ea3 h1 h2 h3))
theorem c_law_product (c_law_led : Ct w K mg base 2 "_law_led" sp_law_led) (T : Tp K mg) : Ct w K mg base 3 "_law_product" sp_law_product := by
  refine ct_mk T (i := 69) (by decide) sc_law_product (fun _ _ _ _ _ _ us hl => match us, hl with | [_, _, _], _ => rfl) (mkSp_len fun i X H vs h => ?_) fun f cdv A outer s H vs Q E hr h => ?_
  · exact a3_len h.2
  · obtain ⟨⟨q, n, A, B⟩, X, k, ⟨⟨sa, sb, pos⟩, u1, u2, u3, rfl, h1, h2, h3⟩, post⟩ := h
    dsimp only at sa sb pos h1 h2 h3 post
    have nd := sc_law_product.nd
    refine ⟨_, PSs.nox (pss_one (ps_ret (pe_lc (own := [("_law_row", 3)]) (g := gName 3) (tt := tYes) rfl nd (pi_listK K (pv 1)) (blkOk_by (N := N_law_product) (sc := (defScope (topS 69))) (by decide +kernel)) (fun _ _ _ _ _ => pg_name (i := 3) nd rfl (Or.inl rfl)) (fun _ _ _ _ _ => pts_nil) (fun _ _ _ _ _ => pe_ct c_law_led hr (by decide) (by rfl) (pa_cons (pv 0) (pa_cons (pv 3) (pa_cons (pv 2) pa_nil))))))), ?_⟩
    exact s_ret k ((en_map (R' := fun r : List (Fq q) => oRow r) (fun r => ledM r B) (ei_list (ev_var rfl h2)) (oL_len h2) fun r hr Y H5 v5 l5 rv => ⟨_, tg1, rfl, ev_law_led (LedOk.of sb (sa.2 r hr) pos) (ev_var rfl (up l5 h1)) (ev_var rfl rv) (ev_var rfl (up l5 h3))⟩).ev (by rw [List.length_map]; exact oL_len h2)) fun H5 v5 s5 o5 => post H5 v5 s5 o5
/-! def _law_doubled: slots 0=_law_size 1=_law_table 2=_law_half 3=_law_found 4=_law_i 5=_law_row 6=_law_j -/
abbrev N_law_doubled : List Str := ["_law_size", "_law_table", "_law_half", "_law_found", "_law_i", "_law_row", "_law_j"]
theorem sc_law_doubled : FnScope N_law_doubled ["_law_size", "_law_table"] (defScope (topS 70)) := ⟨rfl, rfl, rfl, by decide +kernel, rfl, by decide +kernel, by decide +kernel⟩
structure DbOk {q : Pm} (n : Nat) (A : List (List (Fq q))) : Prop where
  a : Sq n A
  pos : 0 < n
  top : n ≤ 36
def sp_law_doubled : L2.Sp := mkSp (ι := (q : Pm) × Nat × List (List (Fq q))) (fun i X H vs => DbOk i.2.1 i.2.2 ∧ a2 (oN i.2.1) (oRows i.2.2) X H vs) (fun i => oEx (fun m : List (List (Fq i.1)) => oRows m) (Sq i.2.1))
theorem ev_law_doubled {q : Pm} {n : Nat} {A : List (List (Fq q))} (ok : DbOk n A) (h1 : EvP ta σ X H (oN n)) (h2 : EvP tb σ X H (oRows A)) : EvP (tCall sp_law_doubled [] E0 (tCons ta (tCons tb tNil))) σ X H (oEx (fun m : List (List (Fq q)) => oRows m) (Sq n)) :=
  ev_call (⟨q, n, A⟩ : (q : Pm) × Nat × List (List (Fq q))) (EvA.pre ok (ea2 h1 h2))
theorem ev_maxN {a b : Nat} (h1 : EvP ta σ X H (oN a)) (h2 : EvP tb σ X H (oN b)) : EvP (tCB (fun xs H Q => ∃ i j, xs = [.int i, .int j] ∧ Q (.int (if j > i then j else i)) H) (tCons ta (tCons tb tNil))) σ X H (oN (max a b)) := fun Y H1 l Q q =>
  (ea2 h1 h2) Y H1 l _ fun H2 vs s ⟨x, y, e, ex, ey⟩ => by
    have ex : x = .int (a : Int) := ex
    have ey : y = .int (b : Int) := ey
    subst e ex ey
    refine ⟨a, b, rfl, q H2 _ s ?_⟩
    show V.int _ = V.int _
    congr 1
    split <;> omega
theorem ev_divN {a n : Nat} (ha : EvP ta σ X H (oN a)) (hb : EvP tb σ X H (oN n)) (h : 0 < n) (h2 : n < 1073741824) : EvP (tOp (rI CDivN fun i j => .int (i.fdiv j)) ta tb) σ X H (oN (a / n)) := (ev_div ha hb h h2).eq (by rw [← Int.natCast_ediv])
theorem ev_modN {a n : Nat} (ha : EvP ta σ X H (oN a)) (hb : EvP tb σ X H (oN n)) (h : 0 < n) : EvP (tOp (rI (fun _ j => j ≠ 0) fun i j => .int (i.fmod j)) ta tb) σ X H (oN (a % n)) := (ev_mod ha hb h).eq (by rw [← Int.natCast_emod])
theorem mul_bit {q : Pm} (a : Fq q) (b : Bool) : oI (vl a * if b then 1 else 0) = oF (if b = true then a else 0) := by
  cases b
  · show oI (vl a * 0) = oI (vl (0 : Fq q))
    rw [Int.mul_zero, vl_zero]
  · show oI (vl a * 1) = oI (vl a)
    rw [Int.mul_one]
theorem sq_rng {q : Pm} {n : Nat} (f : Nat → Nat → Fq q) : Sq n ((List.range n).map fun i => (List.range n).map fun j => f i j) := ⟨by rw [List.length_map, List.length_range], fun r hr => by
  obtain ⟨i, _, rfl⟩ := List.mem_map.mp hr
  rw [List.length_map, List.length_range]⟩
theorem c_law_doubled (T : Tp K mg) : Ct w K mg base 1 "_law_doubled" sp_law_doubled := by
  refine ct_mk T (i := 70) (by decide) sc_law_doubled (fun _ _ _ _ _ _ us hl => match us, hl with | [_, _], _ => rfl) (mkSp_len fun i X H vs h => ?_) fun f cdv A outer s H vs Q E hr h => ?_
  · exact a2_len h.2
  · obtain ⟨⟨q, n, A⟩, X, k, ⟨⟨sa, pos, top⟩, u1, u2, rfl, h1, h2⟩, post⟩ := h
    dsimp only at sa pos top h1 h2 post
    have nd := sc_law_doubled.nd
    refine ⟨_, PSs.nox (pss_cons (ps_set (i := 2) nd rfl (.inr rfl) (pe_callB (call_max2 rfl) (by rfl) (T.fr "max" (by decide)) (by decide +kernel) (pa_cons pe_int (pa_cons (pe_op op_fdivN (pv 0) pe_int) pa_nil))))
  (pss_cons (ps_set (i := 3) nd rfl (.inl rfl) (pe_lst pa_nil))
  (pss_cons (ps_for PassesOwn.never rfl (pi_range1 (by rfl) (T.fr "range" (by decide)) (pa_cons (pv 0) pa_nil)) (pg_name (i := 4) nd rfl (Or.inr rfl))
    (pss_cons (ps_set (i := 5) nd rfl (.inr rfl) (pe_ix (ix_listK K) (pv 1) (pe_op op_modN (pv 4) (pv 2)) (fun _ _ => rfl)))
  (pss_one (ps_expr (pe_bm PySem.F.plainAttrs_list PySem.F.slot_list_append PySem.F.type_list_append mt_append (pv 3) (pa_cons (pe_lc (own := [("_law_j", 6)]) (g := gName 6) (tt := tYes) rfl nd (pi_range1 (by rfl) (T.fr "range" (by decide)) (pa_cons (pv 0) pa_nil)) (blkOk_by (N := N_law_doubled) (sc := (defScope (topS 70))) (by decide +kernel)) (fun _ _ _ _ _ => pg_name (i := 6) nd rfl (Or.inl rfl)) (fun _ _ _ _ _ => pts_nil) (fun _ _ _ _ _ => pe_op op_mul (pe_ix (ix_listK K) (pv 5) (pe_op op_modN (pv 6) (pv 2)) (fun _ _ => rfl)) (pe_callTy call_int1 (by rfl) (T.fr "int" (by decide)) boot_int (pa_cons (pe_cmpR op_eq (pe_op op_fdivN (pv 4) (pv 2)) (pe_op op_fdivN (pv 6) (pv 2)) (nomark _)) pa_nil)))) pa_nil))))))
  (pss_one (ps_ret (pv 3)))))), ?_⟩
    refine s_set k (ev_maxN (ev_nat (n := 1)) (ev_divN (n := 2) (ev_var rfl h1) ev_nat (by decide) (by decide))) fun H1 v1 s1 o1 => ?_
    have k1 := k.same s1
    generalize hh : max 1 (n / 2) = m at o1
    have hm : 0 < m ∧ m ≤ n := by omega
    have ev1 : v1 = .int (m : Int) := o1
    subst ev1
    have pm : ∀ {X H}, oN m X H (.int (m : Int)) := fun {_ _} => rfl
    refine s_new k1 (en_nil (R := fun r : List (Fq q) => oRow r)) fun H2 l vs s2 nl ell it2 l2 => ?_
    have hv0 : vs = [] := List.length_eq_zero_iff.mp it2.1
    subst hv0
    have h12 := up l2 (rsm s1 h1)
    have h22 := up l2 (rsm s1 h2)
    refine s_for l2.kn (ei_range (ev_var rfl h12) (by omega)) fun H3 s3 l3 => ?_
    refine ⟨fun i σ1 H4 => (∃ z1 z2, σ1 = [some u1, some u2, some (.int (m : Int)), some (.ref l), z1, z2, none]) ∧ (∃ acc, H4 l = some (.lst acc) ∧ Its (fun r : List (Fq q) => oRow r) (hid X l) H4 acc (((List.range n).take i).map fun i => (List.range n).map fun j => if (decide (i / m = j / m)) = true then en A (i % m) (j % m) else 0)) ∧ Same H H4, ⟨⟨none, none, rfl⟩, ⟨[], s3 _ _ ell, by rw [List.take_zero]; exact Its.nil⟩, (s1.trans s2).trans s3⟩, ?_, ?_⟩
    · rintro i x σ1 H4 H5 vx hx l4 ⟨⟨z1, z2, rfl⟩, ⟨acc, ea, ia⟩, sb⟩ s5 hvx
      have l5 := l4.same s5
      have lk := l3.trans l5
      obtain ⟨hi1, hi2⟩ := List.getElem?_eq_some_iff.mp hx
      rw [List.getElem_range] at hi2
      rw [List.length_range] at hi1
      subst hi2
      have hmi : i % m < m := Nat.mod_lt _ hm.1
      have hil : i % m < A.length := by rw [sa.1]; omega
      refine tg1 _ ?_
      refine s_set l5.kn (ev_ix (R := fun r : List (Fq q) => oRow r) (i := i % m) (ev_var rfl (up lk h22)) (ev_modN (ev_var rfl hvx) (ev_var rfl pm) hm.1) (List.getElem?_eq_getElem hil)) fun H6 v6 s6 o6 => ?_
      have l6 := l5.same s6
      have hlen : acc.length < 5000 := by
        have e1 := ia.1
        rw [List.length_map, List.length_take, List.length_range] at e1
        omega
      refine s_append l6.kn rfl (s6 _ _ (s5 _ _ ea)) hlen ((en_map (R := fun j : Nat => oN j) (R' := fun a : Fq q => oF a) (fun j => if (decide (i / m = j / m)) = true then en A (i % m) (j % m) else 0) (ei_range (ev_var rfl (up (lk.same s6) h12)) (by omega)) (by rw [List.length_range]; omega) fun j hj Y H7 v7 l7 rv => ⟨_, tg1, rfl, ?_⟩).ev (by rw [List.length_map, List.length_range]; omega)) fun H8 v8 s8 o8 => ?_
      · have hjn := List.mem_range.mp hj
        have hmj : j % m < m := Nat.mod_lt _ hm.1
        have hvx7 : oN i Y H7 vx := up l7 (rsm s6 hvx)
        have hrl : (A[i % m]).length = n := sa.2 _ (List.getElem_mem hil)
        have hen : (A[i % m])[j % m]? = some (en A (i % m) (j % m)) := by
          obtain ⟨r, e1, e2⟩ := en_of sa (show i % m < n by omega) (show j % m < n by omega)
          rw [List.getElem?_eq_getElem hil] at e1
          rw [Option.some.inj e1]
          exact e2
        refine (ev_mulL (ev_ix (R := fun a : Fq q => oF a) (i := j % m) (ev_var rfl (up l7 o6)) (ev_modN (ev_var rfl rv) (ev_var rfl pm) hm.1) hen) (ev_intB (ev_eq (ev_divN (ev_var rfl hvx7) (ev_var rfl pm) hm.1 (by omega)) (ev_divN (ev_var rfl rv) (ev_var rfl pm) hm.1 (by omega)) rfl)) (vl_64 _)).eq ?_
        rw [dec_nat, mul_bit]
      · have lw : Lt (hid X l) H8 (hid X l) (upd H8 l (.lst (acc ++ [v8]))) := (Lt.refl (l6.same s8).kn).write (.inr rfl)
        refine ⟨⟨⟨_, _, rfl⟩, ⟨_, upd_same, ?_⟩, same_write (((sb.trans s5).trans s6).trans s8) (s1.free nl)⟩, (l6.same s8).trans lw⟩
        rw [take_mapS hx]
        exact ((((ia.sm s5).sm s6).sm s8).up lw).snoc (up lw o8)
    · rintro σ1 H4 l4 ⟨⟨z1, z2, rfl⟩, ⟨acc, ea, ia⟩, sb⟩
      rw [take_all] at ia
      have sq := sq_rng (n := n) (fun i j => if (decide (i / m = j / m)) = true then en A (i % m) (j % m) else 0)
      have or := oL.mk (X := X) (notKn k1 nl) ea (ia.dn hid_wk) (by rw [sq.1]; omega)
      exact s_ret (O := oRows _) (kn_wk l4.kn hid_wk) (ev_var rfl or) fun H5 v5 s5 o5 => post H5 v5 (sb.trans s5) ⟨_, sq, o5⟩
end
end Still

set_option Elab.async false
set_option linter.all false
set_option maxRecDepth 100000
set_option maxHeartbeats 4000000
namespace Still
open PySem PySem.Spec PyProof.Rows L2
section
variable {w : World} {K : PySem.W.Frag} {mg : Str → Option Value} {base : Heap}
variable {σ : L2.St} {X : AX} {H : Hp} {ta tb tc td te tf tg' : TE} {t u : TS} {D : Ends} {l : Addr} {N N' : Nat} {A B O : Ob}
theorem But.write {t : Addr} {H1 : Hp} {o : HO} (b : But l H H1) (n : H t = none) : But l H (L2.upd H1 t o) := fun c u h e => by
  rw [upd_ne (ne_of_none e n)]
  exact b c u h e
theorem Bg.write {t : Addr} {o : HO} (g : Bg H l N) (n : t ≠ l) : Bg (upd H t o) l N := by
  obtain ⟨b0, b1, e, h⟩ := g
  exact ⟨b0, b1, by rw [upd_ne n.symm]; exact e, h⟩
theorem Bg.ne_new {t : Addr} (g : Bg H l N) (n : H t = none) : t ≠ l := fun z => g.ne (z ▸ n)
/-! def _law_drawn_table: slots 0=_law_p 1=_law_size 2=_law_kind 3=_law_cut 4=_law_tables 5=_law_bag_here 6=_law_table 7=_law_i 8=_law_row 9=_law_j 10=_law_rest 11=_law_some 12=_law_one 13=_law_two -/
abbrev N_law_drawn_table : List Str := ["_law_p", "_law_size", "_law_kind", "_law_cut", "_law_tables", "_law_bag_here", "_law_table", "_law_i", "_law_row", "_law_j", "_law_rest", "_law_some", "_law_one", "_law_two"]
theorem sc_law_drawn_table : FnScope N_law_drawn_table ["_law_p", "_law_size", "_law_kind", "_law_cut", "_law_tables", "_law_bag_here"] (defScope (topS 71)) := ⟨rfl, rfl, rfl, by decide +kernel, rfl, by decide +kernel, by decide +kernel⟩
abbrev DrI (q : Pm) : Type := Nat × Nat × Nat × List (List (List (Fq q)))
structure DrOk {q : Pm} (i : DrI q) (N : Nat) : Prop where
  pos : 0 < i.1
  six : i.1 ≤ 6
  sq : ∀ A, A ∈ i.2.2.2 → Sq i.1 A
  N : N ≤ 10000
def sp_law_drawn_table : L2.Sp := fun vs H Q _ => ∃ (q : Pm) (i : DrI q) (X : AX) (l : Addr) (N : Nat) (v : V), Kn X H ∧ X l ∧ DrOk i N ∧ vs = [.int q.n, .int i.1, .int i.2.1, .int i.2.2.1, v, .ref l] ∧ oTabs i.2.2.2 X H v ∧ Bg H l N ∧
  ∀ H1 v A, But l H H1 → Sq i.1 A → oRows (q := q) A X H1 v → Q v H1
/-- one with a new bag -/
theorem ev_law_drawn_table {q : Pm} {i : DrI q} (ok : DrOk i N) (h1 : EvP ta σ X H (oN q.n)) (h2 : EvP tb σ X H (oN i.1)) (h3 : EvP tc σ X H (oN i.2.1)) (h4 : EvP td σ X H (oN i.2.2.1)) (h5 : EvP te σ X H (oTabs i.2.2.2)) (h6 : EvB tf σ X H N) :
    EvP (tCall sp_law_drawn_table [] E0 (tCons ta (tCons tb (tCons tc (tCons td (tCons te (tCons tf tNil))))))) σ X H (oEx (fun m : List (List (Fq q)) => oRows m) (Sq i.1)) := fun Y H1 lt Q qq =>
  h1 Y H1 lt _ fun H2 v1 s1 e1 => h2 Y H2 (lt.same s1) _ fun H3 v2 s2 e2 => h3 Y H3 ((lt.same s1).same s2) _ fun H4 v3 s3 e3 => h4 Y H4 (((lt.same s1).same s2).same s3) _ fun H5 v4 s4 e4 => h5 Y H5 ((((lt.same s1).same s2).same s3).same s4) _ fun H6 v5 s5 e5 =>
    h6 Y H6 (((((lt.same s1).same s2).same s3).same s4).same s5) _ fun H7 l s6 n g => by
      have e1 : v1 = _ := e1
      have e2 : v2 = _ := e2
      have e3 : v3 = _ := e3
      have e4 : v4 = _ := e4
      subst e1 e2 e3 e4
      have k6 := (((((lt.same s1).same s2).same s3).same s4).same s5).kn
      obtain ⟨b0, b1, e, hb⟩ := g
      have lf := (Lt.refl k6).fresh s6 n e
      have s := ((((s1.trans s2).trans s3).trans s4).trans s5)
      exact ⟨q, i, hid Y l, l, N, v5, lf.kn, .inr rfl, ok, rfl, up lf e5, ⟨b0, b1, e, hb⟩, fun H8 v A b hA o => qq H8 v (But.same (s.free n) (s.trans s6) b) ⟨A, hA, dn hid_wk o⟩⟩
theorem c_law_drawn_table (c_law_number : Ct w K mg base 2 "_law_number" sp_law_number) (c_law_doubled : Ct w K mg base 1 "_law_doubled" sp_law_doubled) (c_law_product : Ct w K mg base 3 "_law_product" sp_law_product) (c_law_added : Ct w K mg base 1 "_law_added" sp_law_added) (T : Tp K mg) : Ct w K mg base 4 "_law_drawn_table" sp_law_drawn_table := by
  refine ct_mk T (i := 71) (by decide) sc_law_drawn_table (fun _ _ _ _ _ _ us hl => match us, hl with | [_, _, _, _, _, _], _ => rfl) (fun vs H Q E h => ?_) fun f cdv A outer s H vs Q E hr h => ?_
  · obtain ⟨q, i, X, l, N, v, _, _, _, rfl, _⟩ := h
    rfl
  · obtain ⟨q, ⟨n, kind, cut, tabs⟩, X, l, N, v5, k, hl, ⟨pos, six, sq, hN⟩, rfl, h5, bg, post⟩ := h
    dsimp only at pos six sq hN h5 post ⊢
    have nd := sc_law_drawn_table.nd
    refine ⟨_, PSs.nox (pss_cons (ps_set (i := 6) nd rfl (.inl rfl) (pe_lst pa_nil))
  (pss_cons (ps_for PassesOwn.never rfl (pi_range1 (by rfl) (T.fr "range" (by decide)) (pa_cons (pv 1) pa_nil)) (pg_name (i := 7) nd rfl (Or.inl rfl))
    (pss_cons (ps_set (i := 8) nd rfl (.inl rfl) (pe_lst pa_nil))
  (pss_cons (ps_for PassesOwn.never rfl (pi_range1 (by rfl) (T.fr "range" (by decide)) (pa_cons (pv 1) pa_nil)) (pg_name (i := 9) nd rfl (Or.inl rfl))
    (pss_one (ps_expr (pe_bm PySem.F.plainAttrs_list PySem.F.slot_list_append PySem.F.type_list_append mt_append (pv 8) (pa_cons (pe_ct c_law_number hr (by decide) (by rfl) (pa_cons (pv 0) (pa_cons (pv 1) (pa_cons (pv 2) (pa_cons (pv 3) (pa_cons (pv 7) (pa_cons (pv 9) (pa_cons (pv 5) pa_nil)))))))) pa_nil)))))
  (pss_one (ps_expr (pe_bm PySem.F.plainAttrs_list PySem.F.slot_list_append PySem.F.type_list_append mt_append (pv 6) (pa_cons (pv 8) pa_nil)))))))
  (pss_cons (ps_set (i := 10) nd rfl (.inr rfl) (pe_ix (ix_listK K) (pe_ix (ix_listK K) (pv 6) pe_int (fun _ _ => rfl)) pe_int (fun _ _ => rfl)))
  (pss_cons (ps_if (pt_cmpR op_eq (pv 2) pe_int (nomark _))
    (pss_one (ps_ret (pe_lc (own := [("_law_i", 7)]) (g := gName 7) (tt := tYes) rfl nd (pi_range1 (by rfl) (T.fr "range" (by decide)) (pa_cons (pv 1) pa_nil)) (blkOk_by (N := N_law_drawn_table) (sc := (defScope (topS 71))) (by decide +kernel)) (fun _ _ _ _ _ => pg_name (i := 7) nd rfl (Or.inr rfl)) (fun _ _ _ _ _ => pts_nil) (fun _ _ _ _ _ => pe_lc (own := [("_law_j", 9)]) (g := gName 9) (tt := tYes) rfl nd (pi_range1 (by rfl) (T.fr "range" (by decide)) (pa_cons (pv 1) pa_nil)) (blkOk_by (N := N_law_drawn_table) (sc := ({ kind := .function, names := [(".0", .local), ("_law_i", .cell), ("range", .globalImplicit), ("_law_rest", .cell), ("_law_size", .cell)], isGenerator := false, isCoroutine := false, more := [] } : Scope)) (by decide +kernel)) (fun _ _ _ _ _ => pg_name (i := 9) nd rfl (Or.inl rfl)) (fun _ _ _ _ _ => pts_nil) (fun _ _ _ _ _ => pe_op op_mul (pv 10) (pe_callTy call_int1 (by rfl) (T.fr "int" (by decide)) boot_int (pa_cons (pe_cmpR op_eq (pv 7) (pv 9) (nomark _)) pa_nil))))))) pss_nil)
  (pss_cons (ps_if (pt_cmpR op_eq (pv 2) pe_int (nomark _))
    (pss_one (ps_ret (pe_ct c_law_doubled hr (by decide) (by rfl) (pa_cons (pv 1) (pa_cons (pv 6) pa_nil))))) pss_nil)
  (pss_cons (ps_if (PW.pt (pw_and (pt_cmpR op_eq (pv 2) pe_int (nomark _)) (pw_and1 (pt_cmpR op_gt (pe_callB (call_lenK K) (by rfl) (T.fr "len" (by decide)) PySem.boot_len (pa_cons (pv 4) pa_nil)) pe_int (nomark _)))))
    (pss_cons (ps_set (i := 11) nd rfl (.inl rfl) (pe_ct c_law_product hr (by decide) (by rfl) (pa_cons (pv 0) (pa_cons (pe_ix (ix_listK K) (pv 4) pe_int (fun _ _ => rfl)) (pa_cons (pe_ix (ix_listK K) (pv 4) pe_int (fun _ _ => rfl)) pa_nil)))))
  (pss_one (ps_ret (pe_lc (own := [("_law_one", 12), ("_law_two", 13)]) (g := gTup K 2 (gCons (gName 12) (gCons (gName 13) gNil))) (tt := tYes) rfl nd (pi_zipK K (by rfl) (T.fr "zip" (by decide)) (pa_cons (pv 11) (pa_cons (pe_ix (ix_listK K) (pv 4) pe_int (fun _ _ => rfl)) pa_nil))) (blkOk_by (N := N_law_drawn_table) (sc := (defScope (topS 71))) (by decide +kernel)) (fun _ _ _ _ _ => pg_tup (by rfl) (pgs_cons (pg_name (i := 12) nd rfl (Or.inl rfl)) (pgs_cons (pg_name (i := 13) nd rfl (Or.inl rfl)) pgs_nil))) (fun _ _ _ _ _ => pts_nil) (fun _ _ _ _ _ => pe_ct c_law_added hr (by decide) (by rfl) (pa_cons (pv 0) (pa_cons (pv 13) (pa_cons (pv 10) (pa_cons (pv 12) pa_nil))))))))) pss_nil)
  (pss_one (ps_ret (pv 6))))))))), ?_⟩
    have pn : ∀ {X : AX} {H : Hp} {v : V} {n : Nat}, v = .int (n : Int) → oN n X H v := fun e => e
    refine s_new k (en_nil (R := fun r : List (Fq q) => oRow r)) fun H2 t vs s2 nt ett it2 l2 => ?_
    have hv0 : vs = [] := List.length_eq_zero_iff.mp it2.1
    subst hv0
    have tl : t ≠ l := bg.ne_new nt
    have h52 := up l2 h5
    refine s_for l2.kn (ei_range (ev_var rfl (pn (n := n) rfl)) (by omega)) fun H3 s3 l3 => ?_
    have l23 := l2.trans l3
    refine ⟨fun i σ1 H4 => (∃ z7 z8 z9, σ1 = [some (.int (q.n : Int)), some (.int (n : Int)), some (.int (kind : Int)), some (.int (cut : Int)), some v5, some (.ref l), some (.ref t), z7, z8, z9, none, none, none, none]) ∧ But l H H4 ∧ Bg H4 l (N + i * n) ∧
      ∃ acc rows, H4 t = some (.lst acc) ∧ Its (fun r : List (Fq q) => oRow r) (hid X t) H4 acc rows ∧ rows.length = i ∧ ∀ r, r ∈ rows → r.length = n, ⟨⟨none, none, none, rfl⟩, But.of (s2.trans s3), by rw [Nat.zero_mul, Nat.add_zero]; exact (bg.same s2).same s3, [], [], s3 _ _ ett, Its.nil, rfl, fun r hr => by simp at hr⟩, ?_, ?_⟩
    · rintro i x σ1 H4 H5 vx hx l4 ⟨⟨z7, z8, z9, rfl⟩, b4, g4, acc, rows, ea, ia, hrl, hrn⟩ s5 hvx
      have l5 := l4.same s5
      obtain ⟨hi1, hi2⟩ := List.getElem?_eq_some_iff.mp hx
      rw [List.getElem_range] at hi2
      rw [List.length_range] at hi1
      subst hi2
      have evx : vx = .int (i : Int) := hvx
      subst evx
      have g5 := g4.same s5
      have hin : i * n ≤ 36 := Nat.le_trans (Nat.mul_le_mul (show i ≤ 6 by omega) six) (by decide)
      refine tg1 _ ?_
      refine s_new l5.kn (en_nil (R := fun a : Fq q => oF a)) fun H6 r vs s6 nr er it6 l6 => ?_
      have hv0 : vs = [] := List.length_eq_zero_iff.mp it6.1
      subst hv0
      have g6 := g5.same s6
      have b6 := (b4.trans (But.of s5)).trans (But.of s6)
      have rl : r ≠ l := g5.ne_new nr
      have rt : r ≠ t := fun z => by have := s5 _ _ ea; rw [← z, nr] at this; cases this
      have ia6 := (ia.sm s5).up l6
      have hX2 : hid (hid X t) r l := .inl (.inl hl)
      have Hr0 : H r = none := by
        cases hz : H r with
        | none => rfl
        | some o => exact absurd nr (by rw [s5 _ _ (b4 r o rl hz)]; exact fun z => nomatch z)
      refine s_for l6.kn (ei_range (ev_var rfl (pn (n := n) rfl)) (by omega)) fun H7 s7 l7 => ?_
      refine ⟨fun j σ2 H8 => (∃ z9, σ2 = [some (.int (q.n : Int)), some (.int (n : Int)), some (.int (kind : Int)), some (.int (cut : Int)), some v5, some (.ref l), some (.ref t), some (.int (i : Int)), some (.ref r), z9, none, none, none, none]) ∧ But l H H8 ∧ Bg H8 l (N + i * n + j) ∧ H8 t = some (.lst acc) ∧
        ∃ rr : List (Fq q), rr.length = j ∧ H8 r = some (.lst (fM rr)), ⟨⟨z9, rfl⟩, b6.trans (But.of s7), g6.same s7, s7 _ _ (s6 _ _ (s5 _ _ ea)), [], rfl, s7 _ _ er⟩, ?_, ?_⟩
      · rintro j x2 σ2 H8 H9 vj hj l8 ⟨⟨y9, rfl⟩, b8, g8, et8, rr, hrr, err⟩ s9 hvj
        have l9 := l8.same s9
        obtain ⟨hj1, hj2⟩ := List.getElem?_eq_some_iff.mp hj
        rw [List.getElem_range] at hj2
        rw [List.length_range] at hj1
        subst hj2
        have evj : vj = .int (j : Int) := hvj
        subst evj
        refine tg1 _ ?_
        refine s_appendG l9.kn hX2 (g8.same s9) rfl (s9 _ _ err) (by unfold fM; rw [List.length_map]; omega) rl (eg_law_number (a := ⟨n, kind, cut, i, j⟩) (by omega) (ev_var rfl (pn rfl)) (ev_var rfl (pn rfl)) (ev_var rfl (pn rfl)) (ev_var rfl (pn rfl)) (ev_var rfl (pn rfl)) (ev_var rfl (pn rfl)) (ev_var rfl rfl)) fun H10 v10 b10 g10 l10 ⟨c, _, o10⟩ => ?_
        have ev10 : v10 = .int (vl c) := o10
        subst ev10
        refine ⟨⟨⟨_, rfl⟩, ((b8.trans (But.of s9)).trans b10).write Hr0, (g10.write rl), ?_, rr ++ [c], by rw [List.length_append, hrr]; rfl, ?_⟩, (l9.trans l10).write (.inr rfl)⟩
        · rw [upd_ne rt.symm]
          exact b10 _ _ tl (s9 _ _ et8)
        · rw [upd_same]
          unfold fM
          rw [List.map_append]; rfl
      · rintro σ2 H8 l8 ⟨⟨y9, rfl⟩, b8, g8, et8, rr, hrr, err⟩
        rw [List.length_range] at g8 hrr
        have hb2 : rr.length ≤ 5000 := by omega
        have or : oRow rr (hid X t) H8 (.ref r) := oL.mk (notKn l5.kn nr) err (Its.of_flat (f := fun a : Fq q => V.int (vl a))) hb2
        have l68 := l6.trans (l7.trans l8)
        have kh : Kn (hid X t) H8 := kn_wk l8.kn hid_wk
        have ia8 : Its (fun r : List (Fq q) => oRow r) (hid X t) H8 acc rows := (ia6.up (l7.trans l8)).dn hid_wk
        have hacc : acc.length = i := by rw [ia8.1, hrl]
        refine s_append (X := hid X t) kh rfl et8 (by omega) (ev_var rfl or) fun H9 v9 s9 o9 => ?_
        have lw : Lt (hid X t) H9 (hid X t) (upd H9 t (.lst (acc ++ [v9]))) := (Lt.refl (kh.same s9)).write (.inr rfl)
        refine ⟨⟨⟨_, _, _, rfl⟩, (b8.trans (But.of s9)).write nt, ?_, _, rows ++ [rr], upd_same, ((ia8.sm s9).up lw).snoc (up lw o9), by rw [List.length_append, hrl]; rfl, fun r hr => ?_⟩, ?_⟩
        · rw [Nat.add_mul, Nat.one_mul, ← Nat.add_assoc]
          exact (g8.same s9).write tl
        · rcases List.mem_append.mp hr with hr | hr
          · exact hrn r hr
          · rw [List.mem_singleton] at hr
            rw [hr]; exact hrr
        · have lt1 : Lt (hid X t) H3 (hid (hid X t) r) H8 := l5.trans l68
          exact (Lt.mk (fun a o na e => ⟨fun z => (lt1.go a o na e).1 (.inl z), (lt1.go a o na e).2⟩) kh (fun a h => h)).same s9 |>.write (.inr rfl)
    · rintro σ1 H4 l4 ⟨⟨z7, z8, z9, rfl⟩, b4, g4, acc, rows, ea, ia, hrl, hrn⟩
      rw [List.length_range] at hrl
      have k4 : Kn X H4 := kn_wk l4.kn hid_wk
      have l24 := l23.trans l4
      have o5 : oTabs tabs X H4 v5 := dn hid_wk (up l24 h5)
      have sqr : Sq n rows := ⟨hrl, hrn⟩
      have or : oRows rows X H4 (.ref t) := oL.mk (notKn k nt) ea (ia.dn hid_wk) (by omega)
      refine s_set k4 (ev_en (i := 0) (j := 0) sqr pos pos (ev_var rfl or) ev_nat ev_nat) fun H5 vc s5 oc => ?_
      generalize en rows 0 0 = c at oc
      have k5 := k4.same s5
      have b5 := b4.trans (But.of s5)
      have or5 := rsm s5 or
      have o55 := rsm s5 o5
      refine s_if k5 (et_test (ev_eq (ev_var rfl (pn (n := kind) rfl)) ev_int rfl)) (fun _ H6 s6 => ?_) fun _ H6 s6 => ?_
      · have sqa := sq_rng (n := n) (fun i j => if (decide (i = j)) = true then c else 0)
        refine s_ret (k5.same s6) ((en_map (R := fun j : Nat => oN j) (R' := fun r : List (Fq q) => oRow r) (fun i => (List.range n).map fun j => if (decide (i = j)) = true then c else 0) (ei_range (ev_var rfl (pn (n := n) rfl)) (by omega)) (by rw [List.length_range]; omega) fun i hi Y H7 v7 l7 rv => ⟨_, tg1, rfl, (en_map (R := fun j : Nat => oN j) (R' := fun a : Fq q => oF a) (fun j => if (decide (i = j)) = true then c else 0) (ei_range (ev_var rfl (pn (n := n) rfl)) (by omega)) (by rw [List.length_range]; omega) fun j hj Y2 H8 v8 l8 rv8 => ⟨_, tg1, rfl, ?_⟩).ev (by rw [List.length_map, List.length_range]; omega)⟩).ev (by rw [sqa.1]; omega)) fun H9 v9 s9 o9 => post H9 v9 _ ((b5.trans (But.of s6)).trans (But.of s9)) sqa o9
        refine (ev_mulL (ev_var rfl (up (l7.trans l8) (rsm s6 oc))) (ev_intB (ev_eq (ev_var rfl (up l8 rv)) (ev_var rfl rv8) rfl)) (vl_64 _)).eq ?_
        rw [dec_nat, mul_bit]
      · have k6 := k5.same s6
        refine s_if k6 (et_test (ev_eq (ev_var rfl (pn (n := kind) rfl)) ev_int rfl)) (fun _ H7 s7 => ?_) fun _ H7 s7 => ?_
        · refine s_ret (k6.same s7) (ev_law_doubled ⟨sqr, pos, by omega⟩ (ev_var rfl (pn (n := n) rfl)) (ev_var rfl (rsm (s6.trans s7) or5))) fun H9 v9 s9 ⟨m, hm, o9⟩ => post H9 v9 m (((b5.trans (But.of s6)).trans (But.of s7)).trans (But.of s9)) hm o9
        · have k7 := k6.same s7
          have s57 := s6.trans s7
          have b7 := b5.trans (But.of s57)
          have o57 := rsm s57 o55
          refine s_if k7 (et_and (et_test (ev_eq (ev_var rfl (pn (n := kind) rfl)) ev_int rfl)) fun _ => et_test (ev_I0 (ev_len (ev_var rfl o57)) ev_int)) (fun hb H8 s8 => ?_) fun _ H8 s8 => ?_
          · have hlen : 0 < tabs.length := by
              have := (Bool.and_eq_true _ _ ▸ hb).2
              have := of_decide_eq_true this
              omega
            have h0 : tabs[0]? = some tabs[0] := List.getElem?_eq_getElem hlen
            have sq0 := sq _ (List.mem_of_getElem? h0)
            generalize tabs[0] = A0 at h0 sq0
            have k8 := k7.same s8
            have o58 := rsm s8 o57
            have ok0 : PrOk n A0 A0 := ⟨sq0, sq0, pos⟩
            refine s_set k8 (ev_law_product ok0 (ev_var rfl (pn (n := q.n) rfl)) (ev_ix (R := fun m : List (List (Fq q)) => oRows m) (i := 0) (ev_var rfl o58) ev_nat h0) (ev_ix (R := fun m : List (List (Fq q)) => oRows m) (i := 0) (ev_var rfl o58) ev_nat h0)) fun H9 v9 s9 o9 => ?_
            have k9 := k8.same s9
            have o59 := rsm s9 o58
            have oc9 := rsm ((s57.trans s8).trans s9) oc
            have hpl : (A0.map fun r => ledM r A0).length = n := by rw [List.length_map, sq0.1]
            have hrl2 : ∀ r, r ∈ A0.map (fun r => ledM r A0) → r.length = n := fun r hr => by
              obtain ⟨s, hs, rfl⟩ := List.mem_map.mp hr
              exact (led_ok (by rw [sq0.2 s hs, sq0.1]) sq0.2 (fun z => by have := sq0.1; rw [z] at this; simp at this; omega)).1
            have hmem : ∀ p : List (Fq q) × List (Fq q), p ∈ (A0.map fun r => ledM r A0).zip A0 → p.1.length = n ∧ p.2.length = n := fun p hp => by
              obtain ⟨i, hi⟩ := List.getElem?_of_mem hp
              rw [List.getElem?_zip_eq_some] at hi
              exact ⟨hrl2 _ (List.mem_of_getElem? hi.1), sq0.2 _ (List.mem_of_getElem? hi.2)⟩
            refine s_ret k9 ((en_map (R' := fun r : List (Fq q) => oRow r) (fun p : List (Fq q) × List (Fq q) => tkM p.2 (0 - c) p.1) (ei_zip (R := fun r : List (Fq q) => oRow r) (R' := fun r : List (Fq q) => oRow r) (ev_var rfl o9) (ev_ix (R := fun m : List (List (Fq q)) => oRows m) (i := 0) (ev_var rfl o59) ev_nat h0) (by rw [hpl, sq0.1])) (by rw [List.length_zip, hpl]; omega) fun p hp Y H10 v10 l10 rv => ?_).ev (by rw [List.length_map, List.length_zip, hpl]; omega)) fun H10 v10 s10 o10 => post H10 v10 _ (((b7.trans (But.of s8)).trans (But.of s9)).trans (But.of s10)) ⟨by rw [List.length_map, List.length_zip, hpl, sq0.1]; omega, fun r hr => ?_⟩ o10
            · obtain ⟨hp1, hp2⟩ := hmem p hp
              obtain ⟨a, b, ha, hb, tg⟩ := tg2 (K := K) (i := 12) (j := 13) (σ := [some (.int (q.n : Int)), some (.int (n : Int)), some (.int (kind : Int)), some (.int (cut : Int)), some v5, some (.ref l), some (.ref t), z7, z8, z9, some vc, some v9, none, none]) rv
              exact ⟨_, tg, rfl, ev_law_added (by rw [hp1, hp2]) (by omega) (ev_var rfl (pn (n := q.n) rfl)) (ev_var rfl hb) (ev_var rfl (up l10 oc9)) (ev_var rfl ha)⟩
            · obtain ⟨p, hp, rfl⟩ := List.mem_map.mp hr
              obtain ⟨hp1, hp2⟩ := hmem p hp
              rw [tk_len (by rw [hp1, hp2]), hp2]
          · exact s_ret (k7.same s8) (ev_var rfl (rsm (s57.trans s8) or5)) fun H9 v9 s9 o9 => post H9 v9 rows ((b7.trans (But.of s8)).trans (But.of s9)) sqr o9
end
end Still

set_option Elab.async false
set_option linter.all false
set_option maxRecDepth 100000
set_option maxHeartbeats 4000000
namespace Still
open PySem PySem.Spec PyProof.Rows L2
section
variable {w : World} {K : PySem.W.Frag} {mg : Str → Option Value} {base : Heap}
variable {σ : L2.St} {X Y : AX} {H H1 : Hp} {ta tb tc td te tf tg' : TE} {t u : TS} {D : Ends} {l : Addr} {N N' : Nat} {A B O : Ob}
theorem pick_list {α β : Type} {P : α → β → Prop} : ∀ {vs : List α}, (∀ v, v ∈ vs → ∃ r, P v r) → ∃ rs : List β, rs.length = vs.length ∧ ∀ (i : Nat) (v : α) (r : β), vs[i]? = some v → rs[i]? = some r → P v r
  | [], _ => ⟨[], rfl, fun i v r e => by simp at e⟩
  | v :: vs, h => by
    obtain ⟨r, hr⟩ := h v (by simp)
    obtain ⟨rs, h1, h2⟩ := pick_list (vs := vs) fun w hw => h w (by simp [hw])
    refine ⟨r :: rs, by rw [List.length_cons, List.length_cons, h1], fun i w s e1 e2 => ?_⟩
    cases i with
    | zero =>
      have e1 : some v = some w := e1
      have e2 : some r = some s := e2
      cases e1
      cases e2
      exact hr
    | succ i => exact h2 i w s e1 e2
theorem oL_ex {α β : Type} {R : β → Ob} {P : β → Prop} {xs : List α} {v : V} (h : oL (fun _ : α => oEx R P) xs X H v) : ∃ ys : List β, ys.length = xs.length ∧ (∀ y, y ∈ ys → P y) ∧ oL R ys X H v := by
  obtain ⟨a, vs, rfl, n, e, it, b⟩ := h.its
  obtain ⟨rs, h1, h2⟩ := pick_list (P := fun v r => P r ∧ R r X H v) (vs := vs) fun v hv => by
    obtain ⟨i, hi⟩ := List.getElem?_of_mem hv
    have hl : i < xs.length := by rw [← it.1]; exact (List.getElem?_eq_some_iff.mp hi).1
    exact it.2 i v _ hi (List.getElem?_eq_getElem hl)
  refine ⟨rs, by rw [h1, it.1], fun y hy => ?_, oL.mk n e ⟨h1.symm, fun i u x e1 e2 => (h2 i u x e1 e2).2⟩ (by rw [h1, it.1]; exact b)⟩
  obtain ⟨i, hi⟩ := List.getElem?_of_mem hy
  have hl : i < vs.length := by rw [← h1]; exact (List.getElem?_eq_some_iff.mp hi).1
  exact (h2 i _ y (List.getElem?_eq_getElem hl) hi).1
/-! rows that were not there before -/
def oNewR {q : Pm} (H0 : Hp) (r : List (Fq q)) : Ob := fun X H v => ∃ a, v = .ref a ∧ H0 a = none ∧ H a = some (.lst (fM r)) ∧ ¬ X a
instance {q : Pm} (H0 : Hp) (r : List (Fq q)) : Rep (oNewR H0 r) := ⟨fun g ⟨a, e, n, h, x⟩ => ⟨a, e, n, (g a _ x h).2, (g a _ x h).1⟩⟩
theorem Lt.none {a : Addr} (l : Lt X H Y H1) (n : H1 a = none) : H a = Option.none := by
  cases h : H a with
  | none => rfl
  | some o =>
    by_cases hx : X a
    · exact absurd n (l.kn a (l.wk a hx))
    · rw [(l.go a o hx h).2] at n; cases n
theorem EvN.newR {q : Pm} {r : List (Fq q)} (h : EvN te σ Y H1 (fun a : Fq q => oF a) r) (lt : Lt X H Y H1) : EvP te σ Y H1 (oNewR H r) := fun Z H2 l Q qq =>
  h Z H2 l _ fun H3 a vs s n e it => by
    have ev := it.flat (f := fun a : Fq q => V.int (vl a))
    subst ev
    exact qq H3 _ s ⟨a, rfl, (lt.trans l).none n, e, notKn l.kn n⟩
theorem oNewR.row {q : Pm} {H0 : Hp} {r : List (Fq q)} {v : V} (h : oNewR H0 r X H v) (b : r.length ≤ 5000) : oRow r X H v := by
  obtain ⟨a, rfl, n, e, x⟩ := h
  exact oL.mk x e (Its.of_flat (f := fun a : Fq q => V.int (vl a))) b
/-! def _law_stepped: slots 0=_law_p 1=_law_table 2=_law_i 3=_law_j 4=_law_rest 5=_law_row 6=_law_found -/
abbrev N_law_stepped : List Str := ["_law_p", "_law_table", "_law_i", "_law_j", "_law_rest", "_law_row", "_law_found"]
theorem sc_law_stepped : FnScope N_law_stepped ["_law_p", "_law_table", "_law_i", "_law_j", "_law_rest"] (defScope (topS 72)) := ⟨rfl, rfl, rfl, by decide +kernel, rfl, by decide +kernel, by decide +kernel⟩
structure StpI (q : Pm) where
  n : Nat
  A : List (List (Fq q))
  i : Nat
  j : Nat
  c : Fq q
structure StpOk {q : Pm} (a : StpI q) : Prop where
  sq : Sq a.n a.A
  i : a.i < a.n
  j : a.j < a.n
  top : a.n ≤ 36
def sp_law_stepped : L2.Sp := mkSp (ι := (q : Pm) × StpI q) (fun i X H vs => StpOk i.2 ∧ a5 (oN i.1.n) (oRows i.2.A) (oN i.2.i) (oN i.2.j) (oF i.2.c) X H vs) (fun i => oEx (fun m : List (List (Fq i.1)) => oRows m) (Sq i.2.n))
theorem ev_law_stepped {q : Pm} {a : StpI q} (ok : StpOk a) (h1 : EvP ta σ X H (oN q.n)) (h2 : EvP tb σ X H (oRows a.A)) (h3 : EvP tc σ X H (oN a.i)) (h4 : EvP td σ X H (oN a.j)) (h5 : EvP te σ X H (oF a.c)) :
    EvP (tCall sp_law_stepped [] E0 (tCons ta (tCons tb (tCons tc (tCons td (tCons te tNil)))))) σ X H (oEx (fun m : List (List (Fq q)) => oRows m) (Sq a.n)) :=
  ev_call (⟨q, a⟩ : (q : Pm) × StpI q) (EvA.pre ok (ea5 h1 h2 h3 h4 h5))
theorem c_law_stepped (c_law_added : Ct w K mg base 1 "_law_added" sp_law_added) (T : Tp K mg) : Ct w K mg base 2 "_law_stepped" sp_law_stepped := by
  refine ct_mk T (i := 72) (by decide) sc_law_stepped (fun _ _ _ _ _ _ us hl => match us, hl with | [_, _, _, _, _], _ => rfl) (mkSp_len fun i X H vs h => ?_) fun f cdv A outer s H vs Q E hr h => ?_
  · exact a5_len h.2
  · obtain ⟨⟨q, n, A, i, j, c⟩, X, k, ⟨⟨sq, hi, hj, top⟩, u1, u2, u3, u4, u5, rfl, h1, h2, h3, h4, h5⟩, post⟩ := h
    dsimp only at sq hi hj top h1 h2 h3 h4 h5 post
    have nd := sc_law_stepped.nd
    refine ⟨_, PSs.nox (pss_cons (ps_setLc (i := 6) (own := [("_law_row", 5)]) (g := gName 5) (tt := tYes) rfl nd rfl rfl (sw_true rfl rfl rfl (by decide +kernel)) (pi_listK K (pv 1)) (blkOk_by (N := N_law_stepped) (sc := (defScope (topS 72))) (by decide +kernel)) (fun _ _ _ _ _ => pg_name (i := 5) nd rfl (Or.inl rfl)) (fun _ _ _ _ _ => pts_nil) (fun _ _ _ _ _ => pe_callTy (call_listK K) (by rfl) (T.fr "list" (by decide)) (by decide +kernel) (pa_cons (pv 5) pa_nil)))
  (pss_cons (ps_asg (pe_ct c_law_added hr (by decide) (by rfl) (pa_cons (pv 0) (pa_cons (pe_ix (ix_listK K) (pv 6) (pv 2) (fun _ _ => rfl)) (pa_cons (pv 4) (pa_cons (pe_ix (ix_listK K) (pv 6) (pv 3) (fun _ _ => rfl)) pa_nil))))) (pg_sub (pv 6) (pv 2) set_list))
  (pss_cons (ps_for PassesOwn.never rfl (pi_listK K (pv 6)) (pg_name (i := 5) nd rfl (Or.inl rfl))
    (pss_one (ps_asg (pe_op op_modN (pe_op op_sub (pe_ix (ix_listK K) (pv 5) (pv 3) (fun _ _ => rfl)) (pe_op op_mul (pv 4) (pe_ix (ix_listK K) (pv 5) (pv 2) (fun _ _ => rfl)))) (pv 0)) (pg_sub (pv 5) (pv 3) set_list))))
  (pss_one (ps_ret (pv 6)))))), ?_⟩
    have pos : 0 < n := by omega
    have h1 : u1 = .int (q.n : Int) := h1
    have h3 : u3 = .int (i : Int) := h3
    have h4 : u4 = .int (j : Int) := h4
    have h5 : u5 = .int (vl c) := h5
    subst h1 h3 h4 h5
    have pn : ∀ {X : AX} {H : Hp} {n : Nat}, oN n X H (.int (n : Int)) := fun {_ _ _} => rfl
    have pc : ∀ {X : AX} {H : Hp}, oF c X H (.int (vl c)) := fun {_ _} => rfl
    refine s_new k ((en_map (R' := fun r : List (Fq q) => oNewR H r) (fun r => r) (ei_list (ev_var rfl h2)) (oL_len h2) fun r hr Y H5 v5 l5 rv => ⟨_, tg1, rfl, (en_list (ev_var rfl rv)).newR l5⟩).eq (List.map_id' _)) fun H1 l vs s1 nl el it1 l1 => ?_
    have k1 : Kn X H1 := k.same s1
    have itx : Its (fun r : List (Fq q) => oNewR H r) X H1 vs A := it1.dn hid_wk
    have itr : Its (fun r : List (Fq q) => oRow r) X H1 vs A := ⟨itx.1, fun i u x e1 e2 => (itx.2 i u x e1 e2).row (by rw [sq.2 x (List.mem_of_getElem? e2)]; omega)⟩
    have or1 : oRows A X H1 (.ref l) := oL.mk (notKn k nl) el itr (by rw [sq.1]; omega)
    have hvl : vs.length = n := by rw [it1.1, sq.1]
    have hiA : i < A.length := by rw [sq.1]; exact hi
    have hjA : j < A.length := by rw [sq.1]; exact hj
    have h0A : 0 < A.length := by rw [sq.1]; exact pos
    have hAi : A[i]? = some A[i] := List.getElem?_eq_getElem hiA
    have hAj : A[j]? = some A[j] := List.getElem?_eq_getElem hjA
    have li := sq.2 _ (List.mem_of_getElem? hAi)
    have lj := sq.2 _ (List.mem_of_getElem? hAj)
    generalize A[i] = ri at hAi li
    generalize A[j] = rj at hAj lj
    refine s_put (X := X) (j := i) (O := oNewR H (tkM ri (0 - c) rj)) k1 rfl el (by omega) ((en_law_added (q := q) (by rw [li, lj]) (ev_var rfl pn) (ev_ix (R := fun r : List (Fq q) => oRow r) (ev_var rfl or1) (ev_var rfl pn) hAi) (ev_var rfl pc) (ev_ix (R := fun r : List (Fq q) => oRow r) (ev_var rfl or1) (ev_var rfl pn) hAj)).newR (Lt.of k s1)) (ev_var rfl pn) fun H2 v2 s2 o2 => ?_
    have hlk : (tkM ri (0 - c) rj).length = n := by rw [tk_len (by rw [li, lj]), li]
    generalize tkM ri (0 - c) rj = rk at o2 hlk
    have hws : ∃ ws : List V, ws = vs.set i v2 := ⟨_, rfl⟩
    obtain ⟨ws, ews⟩ := hws
    rw [← ews]
    have hwl : ws.length = n := by rw [ews, List.length_set, hvl]
    have all : ∀ v, v ∈ ws → ∃ a r, v = .ref a ∧ H a = none ∧ r.length = n ∧ (upd H2 l (.lst ws)) a = some (.lst (fM (q := q) r)) := fun v hv => by
      have cases2 : v = v2 ∨ v ∈ vs := by rw [ews] at hv; rcases List.mem_or_eq_of_mem_set hv with h | h; exact .inr h; exact .inl h
      have nel : ∀ (a : Addr) (r : List (Fq q)), r.length = n → H2 a = some (.lst (fM r)) → a ≠ l := fun a r hr e z => by
        rw [z, s2 _ _ el] at e
        have e : vs = fM r := by injection (Option.some.inj e)
        obtain ⟨u, hu⟩ : ∃ u, vs[0]? = some u := ⟨vs[0], List.getElem?_eq_getElem (by omega)⟩
        have hx : A[0]? = some A[0] := List.getElem?_eq_getElem h0A
        obtain ⟨b, hb, _⟩ := itx.2 0 u _ hu hx
        rw [e] at hu
        unfold fM at hu
        rw [List.getElem?_map] at hu
        cases hr0 : r[0]? with
        | none => rw [hr0] at hu; cases hu
        | some y =>
          rw [hr0] at hu
          have hu : V.int (vl y) = u := Option.some.inj hu
          rw [hb] at hu
          cases hu
      rcases cases2 with rfl | hv
      · obtain ⟨a, e, n0, ea, _⟩ := o2
        exact ⟨a, rk, e, n0, hlk, by rw [upd_ne (nel a rk hlk ea)]; exact ea⟩
      · obtain ⟨m, hm⟩ := List.getElem?_of_mem hv
        have hml : m < A.length := by rw [← itx.1]; exact (List.getElem?_eq_some_iff.mp hm).1
        have hx : A[m]? = some (A[m]'hml) := List.getElem?_eq_getElem hml
        have hxl := sq.2 _ (List.mem_of_getElem? hx)
        obtain ⟨a, e, n0, ea, _⟩ := itx.2 m v _ hm hx
        exact ⟨a, A[m]'hml, e, n0, hxl, by rw [upd_ne (nel a _ hxl (s2 _ _ ea))]; exact s2 _ _ ea⟩
    have sH : Same H (upd H2 l (.lst ws)) := same_write (s1.trans s2) nl
    have elw : (upd H2 l (.lst ws)) l = some (.lst ws) := upd_same
    have hkk : Kn X (upd H2 l (.lst ws)) := k.same sH
    generalize upd H2 l (.lst ws) = G at all sH elw hkk ⊢
    let X3 : AX := fun a => X a ∨ V.ref a ∈ ws
    have k3 : Kn X3 G := fun a h => by
      rcases h with h | h
      · exact hkk a h
      · obtain ⟨b, r, e, _, _, eb⟩ := all _ h
        have : a = b := by injection e
        rw [this, eb]; exact fun z => nomatch z
    have wk3 : ∀ a, X a → X3 a := fun a h => .inl h
    have nl3 : ¬ X3 l := fun h => by
      rcases h with h | h
      · exact notKn k nl h
      · obtain ⟨b, r, e, _, hr, eb⟩ := all _ h
        have : l = b := by injection e
        rw [← this, elw] at eb
        have eb : ws = fM r := by injection (Option.some.inj eb)
        rw [eb] at h
        obtain ⟨y, _, hy⟩ := List.mem_map.mp h
        cases hy
    have ol3 : oL (fun v : V => oV v) ws X3 G (.ref l) := oL.mk nl3 elw (by have := Its.of_flat (f := fun v : V => v) (xs := ws) (X := X3) (H := G); rw [List.map_id'] at this; exact this) (by omega)
    refine s_for k3 (ei_list (ev_var rfl ol3)) fun G1 s4 l4 => ?_
    refine ⟨fun m σ1 H4 => (∃ z, σ1 = [some (.int (q.n : Int)), some u2, some (.int (i : Int)), some (.int (j : Int)), some (.int (vl c)), z, some (.ref l)]) ∧ Same H H4 ∧ ∀ v, v ∈ ws → ∃ a r, v = .ref a ∧ H a = none ∧ r.length = n ∧ H4 a = some (.lst (fM (q := q) r)),
      ⟨⟨_, rfl⟩, sH.trans s4, fun v hv => by obtain ⟨a, r, e, n0, hr, ea⟩ := all v hv; exact ⟨a, r, e, n0, hr, s4 _ _ ea⟩⟩, ?_, ?_⟩
    · rintro m v σ1 H4 H5 vo hv l5 ⟨⟨z, rfl⟩, sa, al⟩ s5 hvo
      have l6 := l5.same s5
      have hvm := List.mem_of_getElem? hv
      have evo : vo = v := hvo
      subst evo
      obtain ⟨a, r, e, n0, hr, ea⟩ := al vo hvm
      subst e
      have ea5 := s5 _ _ ea
      have kx : Kn X H5 := kn_wk l6.kn wk3
      have hxa : ¬ X a := notKn k n0
      have orr : oRow r X H5 (.ref a) := oL.mk hxa ea5 (Its.of_flat (f := fun a : Fq q => V.int (vl a))) (by omega)
      refine tg1 _ ?_
      refine s_put (X := X) (j := j) (O := oF (vc r j - c * vc r i)) kx rfl ea5 (by unfold fM; rw [List.length_map]; omega) (ev_modF (i := vl (vc r j) - vl c * vl (vc r i)) (ev_subI (ev_ix (R := fun a : Fq q => oF a) (i := j) (ev_var rfl orr) (ev_var rfl pn) (vc_get (by omega))) (ev_mulL (ev_var rfl pc) (ev_ix (R := fun a : Fq q => oF a) (i := i) (ev_var rfl orr) (ev_var rfl pn) (vc_get (by omega))) (vl_64 _))) (ev_var rfl pn) (by rw [el_sub_mul, el_vl])) (ev_var rfl pn) fun H6 v6 s6 o6 => ?_
      have ev6 : v6 = .int (vl (vc r j - c * vc r i)) := o6
      subst ev6
      generalize vc r j - c * vc r i = d
      have hset : (fM r).set j (.int (vl d)) = fM (r.set j d) := cell_set
      rw [hset]
      refine ⟨⟨⟨_, rfl⟩, same_write ((sa.trans s5).trans s6) n0, fun v hv => ?_⟩, (l6.same s6).write (.inr hvm)⟩
      obtain ⟨b, r2, e2, m0, hr2, eb⟩ := al v hv
      by_cases hab : b = a
      · subst hab
        exact ⟨b, r.set j d, e2, m0, by rw [List.length_set, hr], upd_same⟩
      · exact ⟨b, r2, e2, m0, hr2, by rw [upd_ne hab]; exact s6 _ _ (s5 _ _ eb)⟩
    · rintro σ1 H4 l5 ⟨⟨z, rfl⟩, sa, al⟩
      have el4 : H4 l = some (.lst ws) := ((l4.trans l5).go l _ nl3 elw).2
      obtain ⟨rs, g1, g2⟩ := pick_list (P := fun v (r : List (Fq q)) => ∃ a, v = .ref a ∧ H a = none ∧ r.length = n ∧ H4 a = some (.lst (fM (q := q) r))) (vs := ws) fun v hv => by
        obtain ⟨a, r, h⟩ := al v hv
        exact ⟨r, a, h⟩
      have sqs : Sq n rs := ⟨by rw [g1, hwl], fun r hr => by
        obtain ⟨m, hm⟩ := List.getElem?_of_mem hr
        have hml : m < ws.length := by rw [← g1]; exact (List.getElem?_eq_some_iff.mp hm).1
        obtain ⟨a, _, _, h, _⟩ := g2 m _ r (List.getElem?_eq_getElem hml) hm
        exact h⟩
      have or : oRows rs X H4 (.ref l) := oL.mk (notKn k nl) el4 ⟨g1.symm, fun m v r e1 e2 => by
        obtain ⟨a, rfl, n0, hr, ea⟩ := g2 m v r e1 e2
        exact oL.mk (notKn k n0) ea (Its.of_flat (f := fun a : Fq q => V.int (vl a))) (by omega)⟩ (by rw [g1]; omega)
      exact s_ret (kn_wk l5.kn wk3) (ev_var rfl or) fun H5 v5 s5 o5 => post H5 v5 (sa.trans s5) ⟨rs, sqs, o5⟩
end
end Still

set_option Elab.async false
set_option linter.all false
set_option maxRecDepth 100000
set_option maxHeartbeats 4000000
namespace Still
open PySem PySem.Spec PyProof.Rows L2
section
variable {w : World} {K : PySem.W.Frag} {mg : Str → Option Value} {base : Heap}
variable {σ : L2.St} {X Y : AX} {H H1 : Hp} {ta tb tc td te tf tg' : TE} {t u : TS} {D : Ends} {l : Addr} {N N' : Nat} {A B O : Ob}
theorem row_at {q : Pm} {r : List (Fq q)} {v : V} (h : oRow r X H v) : ∃ b, v = .ref b ∧ ¬ X b ∧ H b = some (.lst (fM r)) := by
  obtain ⟨b, vs, e, n, hb, it, _⟩ := h.its
  have ev := it.flat (f := fun a : Fq q => V.int (vl a))
  subst ev
  exact ⟨b, e, n, hb⟩
theorem fM_int {q : Pm} {r : List (Fq q)} {i : Nat} {u : V} (h : (fM r)[i]? = some u) : ∃ z, u = .int z := by
  unfold fM at h
  rw [List.getElem?_map] at h
  cases hr : r[i]? with
  | none => rw [hr] at h; cases h
  | some y => rw [hr] at h; exact ⟨_, (Option.some.inj h).symm⟩
/-- a table is no list of tables -/
theorem tab_hid {q : Pm} {n : Nat} (pos : 0 < n) {t : Addr} {acc : List V} {tabs : List (List (List (Fq q)))} {M : List (List (Fq q))} {v : V} (ht : H t = some (.lst acc)) (ia : Its (fun m : List (List (Fq q)) => oRows m) Y H acc tabs) (sqs : ∀ B, B ∈ tabs → Sq n B) (sm : Sq n M) (o : oRows M X H v) : oRows M (hid X t) H v := by
  obtain ⟨a, vs, rfl, na, ha, it, bd⟩ := o.its
  have hvl : vs.length = n := by rw [it.1, sm.1]
  refine oL.mk ?_ ha ⟨it.1, fun i u r e1 e2 => ?_⟩ bd
  · rintro (h | h)
    · exact na h
    · subst h
      rw [ha] at ht
      have ht : vs = acc := by injection (Option.some.inj ht)
      subst ht
      obtain ⟨u, hu⟩ : ∃ u, vs[0]? = some u := ⟨vs[0]'(by omega), List.getElem?_eq_getElem _⟩
      obtain ⟨r0, hr0⟩ : ∃ r, M[0]? = some r := ⟨M[0]'(by rw [sm.1]; exact pos), List.getElem?_eq_getElem _⟩
      have htl : 0 < tabs.length := by rw [← ia.1, hvl]; exact pos
      obtain ⟨B0, hB0⟩ : ∃ r, tabs[0]? = some r := ⟨tabs[0]'htl, List.getElem?_eq_getElem _⟩
      have sq0 := sqs _ (List.mem_of_getElem? hB0)
      obtain ⟨b, rfl, _, hb⟩ := row_at (it.2 0 u r0 hu hr0)
      obtain ⟨b2, ws, e2, _, hb2, it2, _⟩ := (ia.2 0 _ B0 hu hB0).its
      cases e2
      rw [hb] at hb2
      have ew : fM r0 = ws := by injection (Option.some.inj hb2)
      subst ew
      obtain ⟨y, hy⟩ : ∃ y, (fM r0)[0]? = some y := ⟨(fM r0)[0]'(by rw [it2.1, sq0.1]; exact pos), List.getElem?_eq_getElem _⟩
      obtain ⟨s0, hs0⟩ : ∃ r, B0[0]? = some r := ⟨B0[0]'(by rw [sq0.1]; exact pos), List.getElem?_eq_getElem _⟩
      obtain ⟨c, ec, _⟩ := row_at (it2.2 0 y s0 hy hs0)
      obtain ⟨z, hz⟩ := fM_int hy
      rw [ec] at hz
      cases hz
  · have hr := it.2 i u r e1 e2
    obtain ⟨b, rfl, nb, hb⟩ := row_at hr
    have hrl := sm.2 r (List.mem_of_getElem? e2)
    refine oL.mk (vs := fM r) ?_ hb (Its.of_flat (f := fun a : Fq q => V.int (vl a))) (oL_len hr)
    rintro (h | h)
    · exact nb h
    · subst h
      rw [hb] at ht
      have ht : fM r = acc := by injection (Option.some.inj ht)
      have hfl : (fM r).length = n := by unfold fM; rw [List.length_map, hrl]
      have h0 : acc[0]? = some (acc[0]'(by rw [← ht, hfl]; exact pos)) := List.getElem?_eq_getElem _
      have htl : 0 < tabs.length := by rw [← ia.1, ← ht, hfl]; exact pos
      have h1 : tabs[0]? = some (tabs[0]'htl) := List.getElem?_eq_getElem _
      obtain ⟨b2, ws, e2, _⟩ := (ia.2 0 _ _ h0 h1).its
      rw [e2, ← ht] at h0
      obtain ⟨z, hz⟩ := fM_int h0
      cases hz
theorem s_newB {i : Nat} (k : Kn X H) (h : EvB te σ X H N) (next : ∀ H1 l, Same H H1 → H l = none → Bg H1 l N → Lt X H (hid X l) H1 → u D (σ.set i (some (.ref l))) H1) : tSeq (tAsg te (gName i)) u D σ H :=
  h X H (Lt.refl k) _ fun H1 l s n g => by
    obtain ⟨b0, b1, e, hb⟩ := g
    exact next H1 l s n ⟨b0, b1, e, hb⟩ ((Lt.refl k).fresh s n e)
theorem s_unG {α : Type} {A B : α → Ob} {P : α → Prop} {i j : Nat} (k : Kn X H) (hl : X l) (g : Bg H l N) (h : EvG te σ l X H N (oEx (fun z => oP (A z) (B z)) P) N') (next : ∀ H1 x y z, But l H H1 → Bg H1 l N' → Lt X H X H1 → P z → A z X H1 x → B z X H1 y → u D ((σ.set i (some x)).set j (some y)) H1) : tSeq (tAsg te (gTup K 2 (gCons (gName i) (gCons (gName j) gNil)))) u D σ H :=
  h X H (Lt.refl k) hl g _ fun H1 v b g1 ⟨z, hz, a, x, y, e, n, h1, hx, hy⟩ => ⟨a, [x, y], e, .inl (.inl h1), rfl, x, [y], rfl, y, [], rfl, rfl, next H1 x y z b g1 (g1.lt (Lt.refl k) hl b) hz hx hy⟩
/-- one and a take -/
theorem eg_one {m : Nat} (h : EvG tb σ l X H N (oEx (fun d : Nat => oN d) fun d => d < m) N') : EvG (tOp (rI0 fun i j => .int (i + j)) (tC (.int 1)) tb) σ l X H N (oEx (fun d : Nat => oN d) fun d => 1 ≤ d ∧ d ≤ m) N' :=
  eg_op (A := oI 1) ev_int h fun Y H1 x y lt hx hy Q q => by
    obtain ⟨d, hd, e⟩ := hy
    have e : y = .int (d : Int) := e
    exact ⟨1, d, hx, e, q H1 _ (Same.refl _) ⟨1 + d, ⟨by omega, by omega⟩, by show V.int _ = V.int _; rw [Int.natCast_add]; rfl⟩⟩
theorem eg_add {a m : Nat} (ha : EvP ta σ X H (oN a)) (hb : EvG tb σ l X H N (oEx (fun d : Nat => oN d) fun d => d < m) N') : EvG (tOp (rI0 fun i j => .int (i + j)) ta tb) σ l X H N (oEx (fun d : Nat => oN d) fun _ => True) N' :=
  eg_op ha hb fun Y H1 x y lt hx hy Q q => by
    obtain ⟨d, hd, e⟩ := hy
    have e : y = .int (d : Int) := e
    exact ⟨a, d, hx, e, q H1 _ (Same.refl _) ⟨a + d, trivial, by show V.int _ = V.int _; rw [Int.natCast_add]⟩⟩
theorem eg_modR {n : Nat} {P : Nat → Prop} (ha : EvG ta σ l X H N (oEx (fun d : Nat => oN d) P) N') (hb : EvP tb σ X H (oN n)) (pos : 0 < n) : EvG (tOp (rI (fun _ j => j ≠ 0) fun i j => .int (i.fmod j)) ta tb) σ l X H N (oEx (fun d : Nat => oN d) fun d => d < n) N' :=
  eg_opR ha hb fun Y H1 x y lt hx hy Q q => by
    obtain ⟨d, hd, e⟩ := hx
    have e : x = .int (d : Int) := e
    have e2 : y = .int (n : Int) := hy
    exact ⟨d, n, e, e2, by omega, q H1 _ (Same.refl _) ⟨d % n, Nat.mod_lt _ pos, by show V.int _ = V.int _; rw [Int.fmod_eq_emod_of_nonneg _ (by omega), Int.natCast_emod]⟩⟩
def oCrewOf (c : (q : Pm) × Nat × List (List (List (Fq q)))) : Ob := oCrew c.2.1 c.2.2
instance (c : (q : Pm) × Nat × List (List (List (Fq q)))) : Rep (oCrewOf c) := inferInstanceAs (Rep (oCrew c.2.1 c.2.2))
/-! def _law_crew: slots 0=_law_script 1=_law_at 2=_law_bag_here 3=_law_p 4=_law_size 5=_law_many 6=_law_kind 7=_law_cut 8=_law_tables 9=_law_k 10=_law_turn 11=_law_i 12=_law_j 13=_law_rest 14=_law_table -/
abbrev N_law_crew : List Str := ["_law_script", "_law_at", "_law_bag_here", "_law_p", "_law_size", "_law_many", "_law_kind", "_law_cut", "_law_tables", "_law_k", "_law_turn", "_law_i", "_law_j", "_law_rest", "_law_table"]
theorem sc_law_crew : FnScope N_law_crew ["_law_script", "_law_at"] (defScope (topS 73)) := ⟨rfl, rfl, rfl, by decide +kernel, rfl, by decide +kernel, by decide +kernel⟩
def sp_law_crew (K : PySem.W.Frag) : L2.Sp := mkSp (ι := List Int × Nat) (fun i X H vs => i.2 ≤ 100 ∧ a2 (oS K i.1) (oN i.2) X H vs) (fun _ => oEx oCrewOf fun c => CrA c.2.1 c.2.2)
theorem ev_law_crew {xs : List Int} {k : Nat} (hk : k ≤ 100) (h1 : EvP ta σ X H (oS K xs)) (h2 : EvP tb σ X H (oN k)) : EvP (tCall (sp_law_crew K) [] E0 (tCons ta (tCons tb tNil))) σ X H (oEx oCrewOf fun c => CrA c.2.1 c.2.2) :=
  ev_call ((xs, k) : List Int × Nat) (EvA.pre hk (ea2 h1 h2))
theorem c_law_crew (c_law_bag : Ct w K mg base 4 "_law_bag" (sp_law_bag K)) (c_law_fit : Ct w K mg base 4 "_law_fit" sp_law_fit) (c_law_take : Ct w K mg base 4 "_law_take" sp_law_take) (c_law_drawn_table : Ct w K mg base 4 "_law_drawn_table" sp_law_drawn_table) (c_law_stepped : Ct w K mg base 4 "_law_stepped" sp_law_stepped) (T : Tp K mg) : Ct w K mg base 5 "_law_crew" (sp_law_crew K) := by
  refine ct_mk T (i := 73) (by decide) sc_law_crew (fun _ _ _ _ _ _ us hl => match us, hl with | [_, _], _ => rfl) (mkSp_len fun i X H vs h => ?_) fun f cdv A outer s H vs Q E hr h => ?_
  · exact a2_len h.2
  · obtain ⟨⟨xs, at0⟩, X, k, ⟨hat, u1, u2, rfl, h1, h2⟩, post⟩ := h
    dsimp only at hat h1 h2 post
    have nd := sc_law_crew.nd
    refine ⟨_, PSs.nox (pss_cons (ps_set (i := 2) nd rfl (.inl rfl) (pe_ct c_law_bag hr (by decide) (by rfl) (pa_cons (pv 0) (pa_cons (pv 1) pa_nil))))
  (pss_cons (ps_asg (pe_ct c_law_fit hr (by decide) (by rfl) (pa_cons (pv 2) pa_nil)) (pg_tup (by rfl) (pgs_cons (pg_name (i := 3) nd rfl (Or.inr rfl)) (pgs_cons (pg_name (i := 4) nd rfl (Or.inl rfl)) pgs_nil))))
  (pss_cons (ps_set (i := 5) nd rfl (.inl rfl) (pe_op op_add pe_int (pe_ct c_law_take hr (by decide) (by rfl) (pa_cons (pv 2) (pa_cons (pe_ix (ix_listK K) (pe_lst (pa_cons pe_int (pa_cons pe_int pa_nil))) (pe_callTy call_int1 (by rfl) (T.fr "int" (by decide)) boot_int (pa_cons (pe_and (pe_cmpR op_gt (pv 4) pe_int (nomark _)) (pe_one (pe_cmpR op_gt (pe_op op_add (pv 3) (pv 4)) pe_int (nomark _)))) pa_nil)) (fun _ _ => rfl)) pa_nil)))))
  (pss_cons (ps_set (i := 6) nd rfl (.inl rfl) (pe_ct c_law_take hr (by decide) (by rfl) (pa_cons (pv 2) (pa_cons pe_int pa_nil))))
  (pss_cons (ps_set (i := 7) nd rfl (.inl rfl) (pe_op op_add pe_int (pe_ct c_law_take hr (by decide) (by rfl) (pa_cons (pv 2) (pa_cons (pe_callB (call_max2 rfl) (by rfl) (T.fr "max" (by decide)) (by decide +kernel) (pa_cons pe_int (pa_cons (pe_op op_sub (pv 4) pe_int) pa_nil))) pa_nil)))))
  (pss_cons (ps_set (i := 8) nd rfl (.inl rfl) (pe_lst pa_nil))
  (pss_cons (ps_for PassesOwn.never rfl (pi_range1 (by rfl) (T.fr "range" (by decide)) (pa_cons (pv 5) pa_nil)) (pg_name (i := 9) nd rfl (Or.inl rfl))
    (pss_one (ps_expr (pe_bm PySem.F.plainAttrs_list PySem.F.slot_list_append PySem.F.type_list_append mt_append (pv 8) (pa_cons (pe_ct c_law_drawn_table hr (by decide) (by rfl) (pa_cons (pv 3) (pa_cons (pv 4) (pa_cons (pv 6) (pa_cons (pv 7) (pa_cons (pv 8) (pa_cons (pe_ct c_law_bag hr (by decide) (by rfl) (pa_cons (pv 0) (pa_cons (pe_op op_add (pe_op op_add (pv 1) pe_int) (pv 9)) pa_nil))) pa_nil))))))) pa_nil)))))
  (pss_cons (ps_if (pt_cmpR op_gt (pv 4) pe_int (nomark _))
    (pss_one (ps_for PassesOwn.never rfl (pi_range1 (by rfl) (T.fr "range" (by decide)) (pa_cons (pe_ct c_law_take hr (by decide) (by rfl) (pa_cons (pv 2) (pa_cons pe_int pa_nil))) pa_nil)) (pg_name (i := 10) nd rfl (Or.inl rfl))
    (pss_cons (ps_set (i := 11) nd rfl (.inr rfl) (pe_ct c_law_take hr (by decide) (by rfl) (pa_cons (pv 2) (pa_cons (pv 4) pa_nil))))
  (pss_cons (ps_set (i := 12) nd rfl (.inr rfl) (pe_op op_modN (pe_op op_add (pe_op op_add (pv 11) pe_int) (pe_ct c_law_take hr (by decide) (by rfl) (pa_cons (pv 2) (pa_cons (pe_op op_sub (pv 4) pe_int) pa_nil)))) (pv 4)))
  (pss_cons (ps_set (i := 13) nd rfl (.inr rfl) (pe_op op_add pe_int (pe_ct c_law_take hr (by decide) (by rfl) (pa_cons (pv 2) (pa_cons (pe_op op_sub (pv 3) pe_int) pa_nil)))))
  (pss_one (ps_setLc (i := 8) (own := [("_law_table", 14)]) (g := gName 14) (tt := tYes) rfl nd rfl rfl (sw_true rfl rfl rfl (by decide +kernel)) (pi_listK K (pv 8)) (blkOk_by (N := N_law_crew) (sc := (defScope (topS 73))) (by decide +kernel)) (fun _ _ _ _ _ => pg_name (i := 14) nd rfl (Or.inl rfl)) (fun _ _ _ _ _ => pts_nil) (fun _ _ _ _ _ => pe_ct c_law_stepped hr (by decide) (by rfl) (pa_cons (pv 3) (pa_cons (pv 14) (pa_cons (pv 11) (pa_cons (pv 12) (pa_cons (pv 13) pa_nil))))))))))))) pss_nil)
  (pss_one (ps_ret (pe_tup (pa_cons (pv 3) (pa_cons (pv 4) (pa_cons (pv 8) pa_nil)))))))))))))), ?_⟩
    have pn : ∀ {X : AX} {H : Hp} {v : V} {n : Nat}, v = .int (n : Int) → oN n X H v := fun e => e
    refine s_newB k (eb_law_bag (by omega) (ev_var rfl h1) (ev_var rfl h2)) fun H1 l s1 nl g1 l1 => ?_
    have hl : hid X l l := .inr rfl
    refine s_unG l1.kn hl g1 (eg_law_fit (by omega) (ev_var rfl rfl)) fun H2 vp vn ⟨q, n⟩ b2 g2 l2 hfit hp hn => ?_
    obtain ⟨f1, f5, fb⟩ := hfit
    dsimp only at f1 f5 fb hp hn
    have evp : vp = .int (q.n : Int) := hp
    have evn : vn = .int (n : Int) := hn
    subst evp evn
    have hq := q.pos
    have l02 := l1.trans l2
    have s2 : Same H H2 := But.same nl s1 b2
    refine s_setG l2.kn hl g2 (eg_one (eg_law_take (m := if (decide ((n : Int) > 3) && decide (((q.n : Int) + (n : Int)) > 7)) = true then 2 else 4) ⟨by split <;> omega, by split <;> omega, by omega⟩ (ev_var rfl rfl) ?_)) fun H3 vm b3 g3 l3 ⟨m, hm, om⟩ => ?_
    · refine ev_ix (R := fun k : Nat => oN k) (xs := [4, 2]) (i := if (decide ((n : Int) > 3) && decide (((q.n : Int) + (n : Int)) > 7)) = true then 1 else 0) ((en_two (R := fun k : Nat => oN k) (ev_nat (n := 4)) (ev_nat (n := 2))).ev (by simp)) ((ev_intB (ev_andV (ev_I0 (ev_var rfl (pn rfl)) ev_int) fun _ => ev_I0 (ev_addI (ev_var rfl (pn rfl)) (ev_var rfl (pn rfl))) ev_int)).eq ?_) ?_
      · congr 2
        split <;> rfl
      · split <;> rfl
    have hm4 : m ≤ 4 := by
      have := hm.2
      split at this <;> omega
    have evm : vm = .int (m : Int) := om
    subst evm
    have s3 : Same H H3 := But.same nl s2 b3
    refine s_setG l3.kn hl g3 (eg_law_take (m := 8) ⟨by omega, by omega, by omega⟩ (ev_var rfl rfl) ev_nat) fun H4 vk b4 g4 l4 ⟨kind, hkd, ok⟩ => ?_
    have evk : vk = .int (kind : Int) := ok
    subst evk
    have s4 : Same H H4 := But.same nl s3 b4
    refine s_setG l4.kn hl g4 (eg_one (eg_law_take (m := max 1 (n - 1)) ⟨by omega, by omega, by omega⟩ (ev_var rfl rfl) (ev_maxN (ev_nat (n := 1)) ((ev_subI (ev_var rfl (pn (n := n) rfl)) ev_int).eq (show _ = oN (n - 1) by show oI _ = oI _; congr 1; omega))))) fun H5 vc b5 g5 l5 ⟨cut, hct, oc⟩ => ?_
    have evc : vc = .int (cut : Int) := oc
    subst evc
    have s5 : Same H H5 := But.same nl s4 b5
    refine s_new l5.kn (en_nil (R := fun m : List (List (Fq q)) => oRows m)) fun H6 t vs s6 nt ett it6 l6 => ?_
    have hv0 : vs = [] := List.length_eq_zero_iff.mp it6.1
    subst hv0
    have tl : t ≠ l := g5.ne_new nt
    have l06 := ((((l1.trans l2).trans l3).trans l4).trans l5).trans l6
    have g6 := g5.same s6
    have nt0 : H t = none := s5.free nt
    have h16 := up l06 h1
    have h26 := up l06 h2
    refine s_for l6.kn (ei_range (ev_var rfl (pn (n := m) rfl)) (by omega)) fun H7 s7 l7 => ?_
    refine ⟨fun i σ1 H8 => (∃ z9, σ1 = [some u1, some u2, some (.ref l), some (.int (q.n : Int)), some (.int (n : Int)), some (.int (m : Int)), some (.int (kind : Int)), some (.int (cut : Int)), some (.ref t), z9, none, none, none, none, none]) ∧ Same H H8 ∧ Same H6 H7 ∧ (∃ N1, N1 ≤ 1000 ∧ Bg H8 l N1) ∧
      ∃ acc tabs, H8 t = some (.lst acc) ∧ Its (fun m : List (List (Fq q)) => oRows m) (hid (hid X l) t) H8 acc tabs ∧ tabs.length = i ∧ ∀ A, A ∈ tabs → Sq n A, ⟨⟨none, rfl⟩, (s5.trans s6).trans s7, s7, ⟨_, by omega, g6.same s7⟩, [], [], s7 _ _ ett, Its.nil, rfl, fun A hA => by simp at hA⟩, ?_, ?_⟩
    · rintro i x σ1 H8 H9 vx hx l8 ⟨⟨z9, rfl⟩, s8, _, ⟨N1, hN1, g8⟩, acc, tabs, ea, ia, htl, hsq⟩ s9 hvx
      have l9 := l8.same s9
      obtain ⟨hi1, hi2⟩ := List.getElem?_eq_some_iff.mp hx
      rw [List.getElem_range] at hi2
      rw [List.length_range] at hi1
      subst hi2
      have evx : vx = .int (i : Int) := hvx
      subst evx
      refine tg1 _ ?_
      have k9 : Kn (hid X l) H9 := kn_wk l9.kn hid_wk
      have lk := (l7.trans l9)
      have ia9 := ia.sm s9
      have e9 := s9 _ _ ea
      have otab : oTabs tabs (hid X l) H9 (.ref t) := oL.mk (notKn l5.kn nt) e9 (ia9.dn hid_wk) (by omega)
      have hacc : acc.length < 5000 := by rw [ia.1]; omega
      refine s_append (X := hid X l) k9 rfl e9 hacc (ev_law_drawn_table (i := ⟨n, kind, cut, tabs⟩) ⟨by omega, by show n ≤ 6; omega, hsq, by omega⟩ (ev_var rfl (pn rfl)) (ev_var rfl (pn rfl)) (ev_var rfl (pn rfl)) (ev_var rfl (pn rfl)) (ev_var rfl otab) (eb_law_bag (k := at0 + 1 + i) (by omega) (ev_var rfl (dn hid_wk (up lk h16))) (ev_add (ev_add (ev_var rfl (dn hid_wk (up lk h26))) (ev_nat (n := 1))) (ev_var rfl (pn rfl))))) fun H10 v10 s10 ⟨A, hA, o10⟩ => ?_
      have l10 := l9.same s10
      have o11 : oRows A (hid (hid X l) t) H10 v10 := tab_hid (by omega) (s10 _ _ e9) (ia9.sm s10) hsq hA o10
      have lw : Lt (hid (hid X l) t) H10 (hid (hid X l) t) (upd H10 t (.lst (acc ++ [v10]))) := (Lt.refl l10.kn).write (.inr rfl)
      refine ⟨⟨⟨_, rfl⟩, same_write ((s8.trans s9).trans s10) nt0, s7, ⟨N1, hN1, ((g8.same s9).same s10).write tl⟩, _, tabs ++ [A], upd_same, ((ia9.sm s10).up lw).snoc (up lw o11), by rw [List.length_append, htl]; rfl, fun B hB => ?_⟩, l10.trans lw⟩
      rcases List.mem_append.mp hB with hB | hB
      · exact hsq B hB
      · rw [List.mem_singleton] at hB
        rw [hB]; exact hA
    · rintro σ1 H8 l8 ⟨⟨z9, rfl⟩, s8, _, ⟨N1, hN1, g8⟩, acc, tabs, ea, ia, htl, hsq⟩
      rw [List.length_range] at htl
      have k8 : Kn (hid X l) H8 := kn_wk l8.kn hid_wk
      have ot : oTabs tabs (hid X l) H8 (.ref t) := oL.mk (notKn l5.kn nt) ea (ia.dn hid_wk) (by omega)
      have fin : ∀ (H9 : Hp) (σ9 : L2.St) (v9 : V) (tabs9 : List (List (List (Fq q)))), σ9[3]? = some (some (.int (q.n : Int))) → σ9[4]? = some (some (.int (n : Int))) → σ9[8]? = some (some v9) → Same H H9 → Kn (hid X l) H9 → oTabs tabs9 (hid X l) H9 v9 → tabs9.length = m → (∀ A, A ∈ tabs9 → Sq n A) →
          tRet (tTup (tCons (tVar 3) (tCons (tVar 4) (tCons (tVar 8) tNil)))) { nx := fun _ H' => Q .non H', rt := Q } σ9 H9 := fun H9 σ9 v9 tabs9 e3 e4 e8 s9 k9 o9 hl9 hsq9 =>
        s_ret (kn_wk k9 hid_wk) (ev_tup3 (ev_var e3 (pn (n := q.n) rfl)) (ev_var e4 (pn (n := n) rfl)) (ev_var e8 (dn hid_wk o9))) fun H10 v10 s10 o10 => post H10 v10 (s9.trans s10) ⟨⟨q, n, tabs9⟩, ⟨⟨⟨hsq9, by show 0 < n; omega, by show n ≤ 36; omega⟩, fb⟩, by show n ≤ 6; omega, by show tabs9.length ≤ 4; omega⟩, o10⟩
      refine s_if k8 (et_test (ev_I0 (ev_var rfl (pn (n := n) rfl)) ev_int)) (fun hb H9 s9 => ?_) fun _ H9 s9 => fin H9 _ _ tabs rfl rfl rfl (s8.trans s9) (k8.same s9) (rsm s9 ot) htl hsq
      have hn1 : 1 < n := by have := of_decide_eq_true hb; omega
      refine (eg_law_take (X := hid X l) (m := 5) ⟨by omega, by omega, by omega⟩ (ev_var rfl rfl) ev_nat) (hid X l) H9 (Lt.refl (k8.same s9)) hl (g8.same s9) _ fun H10 v10 b10 g10 ⟨d, hd, o10⟩ => ?_
      have l10 := g10.lt (Lt.refl (k8.same s9)) hl b10
      have ot10 := up l10 (rsm s9 ot)
      have s10 : Same H H10 := But.same nl (s8.trans s9) b10
      have e10 : v10 = .int (d : Int) := o10
      subst e10
      refine s_for (D := { nx := fun _ H' => Q .non H', rt := Q }) l10.kn (ei_range (n := d) (ta := fun σ H' Q' => Q' (.int (d : Int)) H') (fun Y2 H2 l2 Q2 q2 => q2 H2 _ (Same.refl _) rfl) (by omega)) fun H11 s11 l11 => ?_
      refine ⟨fun i σ1 H12 => (∃ v8 z9 z10 z11 z12 z13 tabs1, σ1 = [some u1, some u2, some (.ref l), some (.int (q.n : Int)), some (.int (n : Int)), some (.int (m : Int)), some (.int (kind : Int)), some (.int (cut : Int)), some v8, z9, z10, z11, z12, z13, none] ∧ oTabs (q := q) tabs1 (hid X l) H12 v8 ∧ tabs1.length = m ∧ ∀ A, A ∈ tabs1 → Sq n A) ∧ Same H H12 ∧ Bg H12 l (N1 + 1 + 3 * i), ⟨⟨_, _, _, _, _, _, tabs, rfl, rsm s11 ot10, htl, hsq⟩, s10.trans s11, g10.same s11⟩, ?_, ?_⟩
      · rintro i x σ1 H12 H13 vx hx l12 ⟨⟨v8, z9, z10, z11, z12, z13, tabs1, rfl, o8, hl8, hsq8⟩, s12, g12⟩ s13 hvx
        have hi1 := (List.getElem?_eq_some_iff.mp hx).1
        rw [List.length_range] at hi1
        have l13 := l12.same s13
        have s013 := s12.trans s13
        refine tg1 _ ?_
        refine s_setG l13.kn hl (g12.same s13) (eg_law_take (m := n) ⟨by omega, by omega, by omega⟩ (ev_var rfl rfl) (ev_var rfl (pn (n := n) rfl))) fun H14 w11 b14 g14 l14 ⟨d1, hd1, o14⟩ => ?_
        have s14 : Same H H14 := But.same nl s013 b14
        refine s_setG l14.kn hl g14 (eg_modR (n := n) (eg_add (ev_add (ev_var rfl o14) (ev_nat (n := 1))) (eg_law_take (m := n - 1) ⟨by omega, by omega, by omega⟩ (ev_var rfl rfl) ((ev_subI (ev_var rfl (pn (n := n) rfl)) ev_int).eq (show _ = oN (n - 1) by show oI _ = oI _; congr 1; omega)))) (ev_var rfl (pn (n := n) rfl)) (by omega)) fun H15 w12 b15 g15 l15 ⟨d2, hd2, o15⟩ => ?_
        have s15 : Same H H15 := But.same nl s14 b15
        refine s_setG l15.kn hl g15 (eg_one (eg_law_take (m := q.n - 1) ⟨by omega, by omega, by omega⟩ (ev_var rfl rfl) ((ev_subI (ev_var rfl (pn (n := q.n) rfl)) ev_int).eq (show _ = oN (q.n - 1) by show oI _ = oI _; congr 1; omega)))) fun H16 w13 b16 g16 l16 ⟨d3, hd3, o16⟩ => ?_
        have s16 : Same H H16 := But.same nl s15 b16
        have l1316 := (l14.trans l15).trans l16
        have o8b : oTabs tabs1 (hid X l) H16 v8 := up l1316 (rsm s13 o8)
        have o14b : oN d1 (hid X l) H16 w11 := up (l15.trans l16) o14
        have o15b : oN d2 (hid X l) H16 w12 := up l16 o15
        have o16b : oF (el q (d3 : Int)) (hid X l) H16 w13 := by
          show w13 = .int (vl _)
          rw [vl_el, Int.emod_eq_of_lt (by omega) (by omega)]
          exact o16
        refine s_set1 l16.kn ((en_map (R' := fun _ : List (List (Fq q)) => oEx (fun m : List (List (Fq q)) => oRows m) (Sq n)) (fun A => A) (ei_list (ev_var rfl o8b)) (oL_len o8b) fun A hA Y H17 v17 l17 rv => ⟨_, tg1, rfl, ev_law_stepped (a := ⟨n, A, d1, d2, el q (d3 : Int)⟩) ⟨hsq8 A hA, hd1, hd2, by show n ≤ 36; omega⟩ (ev_var rfl (pn (n := q.n) rfl)) (ev_var rfl rv) (ev_var rfl (up l17 o14b)) (ev_var rfl (up l17 o15b)) (ev_var rfl (up l17 o16b))⟩).ev (by rw [List.length_map]; exact oL_len o8b)) fun H17 v17 s17 o17 => ?_
        obtain ⟨tabs2, t1, t2, t3⟩ := oL_ex o17
        refine ⟨⟨⟨v17, _, _, _, _, _, tabs2, rfl, t3, by rw [t1, List.length_map, hl8], t2⟩, s16.trans s17, ?_⟩, (l13.trans l1316).same s17⟩
        have := g16.same s17
        rw [show N1 + 1 + 3 * (i + 1) = N1 + 1 + 3 * i + 1 + 1 + 1 by omega]
        exact this
      · rintro σ1 H12 l12 ⟨⟨v8, z9, z10, z11, z12, z13, tabs1, rfl, o8, hl8, hsq8⟩, s12, g12⟩
        exact fin H12 _ v8 tabs1 rfl rfl rfl s12 l12.kn o8 hl8 hsq8
end
end Still

set_option Elab.async false
set_option linter.all false
set_option maxRecDepth 100000
set_option maxHeartbeats 4000000
namespace Still
open PySem PySem.Spec PyProof.Rows L2
/-! any of a list of whole numbers -/
theorem ints_at : ∀ {us : List Value} {ns : List Int}, IntsAre us ns → ∀ {i : Nat} {v : Value}, us[i]? = some v → ∃ t, v = .int (ns.getD i 0) t
  | _, _, .nil, i, v, e => by simp at e
  | _, _, .cons n t h, 0, v, e => by
    have e : some (Value.int n t) = some v := e
    cases e
    exact ⟨t, rfl⟩
  | _, _, .cons n t h, i + 1, v, e => ints_at h (i := i) e
theorem ints_len : ∀ {us : List Value} {ns : List Int}, IntsAre us ns → us.length = ns.length
  | _, _, .nil => rfl
  | _, _, .cons n t h => by rw [List.length_cons, List.length_cons, ints_len h]
theorem truth_ints {prog : Program} {w : World} {A : Around} {ns : List Int} {its : List Value} (e : IntsAre its ns) :
    TruthOf prog w A (fun i v => its.toArray[i]? = some v) (fun i => (ns.getD i 0 != 0)) := fun i v s Q E hv hq => by
  have hv' : its[i]? = some v := by simpa using hv
  obtain ⟨t, rfl⟩ := ints_at e hv'
  exact PyProof.Rows.truthy_int hq
theorem any_rangeI : ∀ ns : List Int, (List.range ns.length).any (fun i => ns.getD i 0 != 0) = ns.any fun z => z != 0
  | [] => rfl
  | b :: bs => by
    rw [List.length_cons, List.range_succ_eq_map, List.any_cons, List.any_map, List.any_cons, ← any_rangeI bs]
    all_goals rfl
section
variable {X : Cx}
def rAnyI (K : PySem.W.Frag) : List V → Hp → VK → Prop := fun vs H Q => ∃ (a : Addr) (ns : List Int), vs = [V.ref a] ∧ SqL K H a (ns.map V.int) ∧ Q (.bl (ns.any fun z => z != 0)) H
theorem cr_anyI (hc : X.calm = true) : CallR X (.builtin "any") (rAnyI X.K) := by
  intro pins s σ H vs us Q I r h
  obtain ⟨a, ns, rfl, hs, q⟩ := h
  obtain ⟨its, rv, hl, _⟩ := I.list hs
  rw [Vals.ref1 r]
  have hb := ints_of_vals rv
  refine call_any_walk (iter_any hl.isList fun s₂ e2 st hne => ?_)
  subst e2
  refine ⟨_, _, _, _, _, _, _, rfl, Walks.list (A := X.A.in1) (I.ok.hd hc) _ a hne its.toArray, st, truth_ints hb, fun h' tk hk => ?_⟩
  refine ⟨.bl _, H, I.kept fun b o eo => hk b o (fun hmem => ?_) (Heap.get?_push_of_some _ eo), ?_, q⟩
  · rcases List.mem_cons.mp hmem with e1 | hmem
    · exact absurd (e1 ▸ Heap.lt_size eo) (Nat.lt_irrefl _)
    · cases hmem
  · show Value.bool _ = Value.bool _
    rw [← any_rangeI, List.size_toArray, ints_len hb]
theorem cr_anyIK (K : PySem.W.Frag) (hc : X.calm = true) (h : X.K = K := by rfl) : CallR X (.builtin "any") (rAnyI K) := h ▸ cr_anyI hc
end
section
variable {w : World} {K : PySem.W.Frag} {mg : Str → Option Value} {base : Heap}
variable {σ : L2.St} {X Y : AX} {H H1 : Hp} {ta tb tc td te tf tg' : TE} {t u : TS} {D : Ends} {l : Addr} {N N' : Nat} {A B O : Ob}
theorem ev_anyI {xs : List Int} (h : EvP ta σ X H (oL (fun z : Int => oI z) xs)) : EvP (tCB (rAnyI K) (tCons ta tNil)) σ X H (oB (xs.any fun z => z != 0)) := fun Y H1 l Q q =>
  h Y H1 l _ fun H2 v s o => by
    obtain ⟨a, vs, rfl, nx, e, it, bd⟩ := o.its
    have ev := it.flat (f := fun z : Int => V.int z)
    subst ev
    exact ⟨a, xs, rfl, .inl (.inl e), q H2 _ s rfl⟩
theorem row_ints {q : Pm} {r : List (Fq q)} {v : V} (h : oRow r X H v) : oL (fun z : Int => oI z) (r.map vl) X H v := by
  obtain ⟨b, rfl, nb, hb⟩ := row_at h
  refine oL.mk nb hb ?_ (by rw [List.length_map]; exact oL_len h)
  have := Its.of_flat (f := fun z : Int => V.int z) (xs := r.map vl) (X := X) (H := H)
  rw [List.map_map] at this
  exact this
theorem any_row {q : Pm} (r : List (Fq q)) : ((r.map vl).any fun z => z != 0) = !decide (leadM r = none) := by
  by_cases h : leadM r = none
  · rw [decide_eq_true h]
    rw [lead_none] at h
    show _ = false
    rw [List.any_eq_false]
    intro z hz
    obtain ⟨a, ha, rfl⟩ := List.mem_map.mp hz
    obtain ⟨i, hi⟩ := List.getElem?_of_mem ha
    have := h i
    rw [vc_lt hi] at this
    subst this
    rw [vl_zero]
    simp
  · rw [decide_eq_false h]
    show _ = true
    rw [List.any_eq_true]
    rw [lead_none] at h
    obtain ⟨m, hm⟩ : ∃ m, vc r m ≠ 0 := Classical.byContradiction fun q => h fun m => Classical.byContradiction fun z => q ⟨m, z⟩
    have hl : m < r.length := Nat.lt_of_not_le fun z => hm (vc_ge z)
    refine ⟨vl (vc r m), List.mem_map.mpr ⟨_, ?_, rfl⟩, ?_⟩
    · have := vc_get hl
      exact List.mem_of_getElem? this
    · have : vl (vc r m) ≠ 0 := fun z => hm (vl_inj (z.trans vl_zero.symm))
      simpa using this
/-! def _law_back: slots 0=_law_p 1=_law_rest 2=_law_other -/
abbrev N_law_back : List Str := ["_law_p", "_law_rest", "_law_other"]
theorem sc_law_back : FnScope N_law_back ["_law_p", "_law_rest"] (defScope (topS 59)) := ⟨rfl, rfl, rfl, by decide +kernel, rfl, by decide +kernel, by decide +kernel⟩
def sp_law_back : L2.Sp := mkSp (ι := (q : Pm) × Fq q) (fun i X H vs => i.2 ≠ 0 ∧ a2 (oN i.1.n) (oF i.2) X H vs) (fun i => oF (Fd.inv i.2))
theorem ev_law_back {q : Pm} {a : Fq q} (ha : a ≠ 0) (h1 : EvP ta σ X H (oN q.n)) (h2 : EvP tb σ X H (oF a)) : EvP (tCall sp_law_back [] E0 (tCons ta (tCons tb tNil))) σ X H (oF (Fd.inv a)) :=
  ev_call (⟨q, a⟩ : (q : Pm) × Fq q) (EvA.pre ha (ea2 h1 h2))
theorem inv_nat {q : Pm} {a : Fq q} (ha : a ≠ 0) {k : Nat} (hk : k < q.n) : ((k : Int) * vl a % q.n = 1) ↔ (k : Int) = vl (Fd.inv a) := by
  have h0 := Fd.mul_inv a ha
  have ek : (k : Int) = vl (el q (k : Int)) := by rw [vl_el, Int.emod_eq_of_lt (by omega) (by omega)]
  rw [ek]
  generalize el q (k : Int) = c
  rw [← vl_mul]
  constructor
  · intro h
    have h2 : c * a = 1 := vl_inj (h.trans vl_one.symm)
    have : c = Fd.inv a := by
      have h4 : c = (c * a) * Fd.inv a := by rw [show (c * a) * Fd.inv a = c * (a * Fd.inv a) by grind, h0]; grind
      rw [h2] at h4
      rw [h4]; grind
    rw [this]
  · intro h
    have : c = Fd.inv a := vl_inj h
    rw [this, show Fd.inv a * a = a * Fd.inv a by grind, h0, vl_one]
theorem c_law_back (T : Tp K mg) : Ct w K mg base 1 "_law_back" sp_law_back := by
  refine ct_mk T (i := 59) (by decide) sc_law_back (fun _ _ _ _ _ _ us hl => match us, hl with | [_, _], _ => rfl) (mkSp_len fun i X H vs h => ?_) fun f cdv A outer s H vs Q E hr h => ?_
  · exact a2_len h.2
  · obtain ⟨⟨q, a⟩, X, k, ⟨ha, u1, u2, rfl, h1, h2⟩, post⟩ := h
    dsimp only at ha h1 h2 post
    have nd := sc_law_back.nd
    refine ⟨_, PSs.nox (pss_one (ps_ret (pe_ix (ix_listK K) (pe_lc (own := [("_law_other", 2)]) (g := gName 2) rfl nd (pi_range1 (by rfl) (T.fr "range" (by decide)) (pa_cons (pv 0) pa_nil)) (blkOk_by (N := N_law_back) (sc := (defScope (topS 59))) (by decide +kernel)) (fun _ _ _ _ _ => pg_name (i := 2) nd rfl (Or.inl rfl)) (fun _ _ _ _ _ => pts_one (pt_cmpR op_eq (pe_op op_modN (pe_op op_mul (pv 2) (pv 1)) (pv 0)) pe_int (nomark _))) (fun _ _ _ _ _ => pv 2)) pe_int (fun _ _ => rfl)))), ?_⟩
    have hq := q.pos
    have h3 := vl_lo (Fd.inv a)
    have h4 := vl_hi (Fd.inv a)
    have hk0 : (((vl (Fd.inv a)).toNat : Nat) : Int) = vl (Fd.inv a) := Int.toNat_of_nonneg h3
    have hf : (List.range q.n).filter (fun k : Nat => decide ((k : Int) * vl a % q.n = 1)) = [(vl (Fd.inv a)).toNat] := by
      have e : (List.range q.n).filter (fun k : Nat => decide ((k : Int) * vl a % q.n = 1)) = (List.range q.n).filter (fun k : Nat => k == (vl (Fd.inv a)).toNat) := by
        refine List.filter_congr fun k hk => ?_
        have hk := List.mem_range.mp hk
        have := inv_nat ha hk
        by_cases z : k = (vl (Fd.inv a)).toNat
        · rw [decide_eq_true (this.mpr (by omega))]; simp [z]
        · rw [decide_eq_false fun y => z (by have := this.mp y; omega)]; simp [z]
      rw [e, List.filter_beq, List.Nodup.count List.nodup_range, if_pos (List.mem_range.mpr (by omega))]
      rfl
    refine s_ret k (ev_ix (R := fun k : Nat => oN k) (xs := [(vl (Fd.inv a)).toNat]) (x := (vl (Fd.inv a)).toNat) (i := 0) (((en_lc (R := fun k : Nat => oN k) (R' := fun k : Nat => oN k) (fun k => k) (fun k : Nat => decide ((k : Int) * vl a % q.n = 1)) (ei_range (ev_var rfl h1) (by omega)) (by rw [List.length_range]; omega) fun o ho Y H5 v5 l5 rv => ⟨_, tg1, rfl, ?_, fun _ => ev_var rfl rv⟩).eq (by rw [hf]; rfl)).ev (by simp)) ev_nat rfl) fun H5 v5 s5 o5 => post H5 v5 s5 (by show v5 = .int _; rw [← hk0]; exact o5)
    refine (et_test (ev_eq (u := .int ((o : Int) * vl a % (q.n : Int))) (v := .int 1) (ev_mod (ev_mulR (ev_var rfl rv) (ev_var rfl (up l5 h2)) (vl_64 a)) (ev_var rfl (up l5 h1)) (by omega)) ev_int rfl)).eq ?_
    simp
/-! def _law_less: slots 0=_law_p 1=_law_row 2=_law_rest 3=_law_other 4=_law_a 5=_law_b -/
abbrev N_law_less : List Str := ["_law_p", "_law_row", "_law_rest", "_law_other", "_law_a", "_law_b"]
theorem sc_law_less : FnScope N_law_less ["_law_p", "_law_row", "_law_rest", "_law_other"] (defScope (topS 60)) := ⟨rfl, rfl, rfl, by decide +kernel, rfl, by decide +kernel, by decide +kernel⟩
def sp_law_less : L2.Sp := mkSp (ι := (q : Pm) × AdI q) (fun i X H vs => i.2.2.1.length = i.2.2.2.length ∧ a4 (oN i.1.n) (oRow i.2.2.1) (oF i.2.1) (oRow i.2.2.2) X H vs) (fun i => oRow (tkM i.2.2.1 i.2.1 i.2.2.2))
theorem ev_law_less {q : Pm} {c : Fq q} {x y : List (Fq q)} (hl : x.length = y.length) (h1 : EvP ta σ X H (oN q.n)) (h2 : EvP tb σ X H (oRow x)) (h3 : EvP tc σ X H (oF c)) (h4 : EvP td σ X H (oRow y)) : EvP (tCall sp_law_less [] E0 (tCons ta (tCons tb (tCons tc (tCons td tNil))))) σ X H (oRow (tkM x c y)) :=
  ev_call (⟨q, c, x, y⟩ : (q : Pm) × AdI q) (EvA.pre hl (ea4 h1 h2 h3 h4))
theorem c_law_less (T : Tp K mg) : Ct w K mg base 1 "_law_less" sp_law_less := by
  refine ct_mk T (i := 60) (by decide) sc_law_less (fun _ _ _ _ _ _ us hl => match us, hl with | [_, _, _, _], _ => rfl) (mkSp_len fun i X H vs h => ?_) fun f cdv A outer s H vs Q E hr h => ?_
  · exact a4_len h.2
  · obtain ⟨⟨q, c, x, y⟩, X, k, ⟨hl, u1, u2, u3, u4, rfl, h1, h2, h3, h4⟩, post⟩ := h
    dsimp only at hl h1 h2 h3 h4 post
    have hx := oL_len h2
    have nd := sc_law_less.nd
    refine ⟨_, PSs.nox (pss_one (ps_ret (pe_lc (own := [("_law_a", 4), ("_law_b", 5)]) (g := gTup K 2 (gCons (gName 4) (gCons (gName 5) gNil))) (tt := tYes) rfl nd (pi_zipK K (by rfl) (T.fr "zip" (by decide)) (pa_cons (pv 1) (pa_cons (pv 3) pa_nil))) (blkOk_by (N := N_law_less) (sc := (defScope (topS 60))) (by decide +kernel)) (fun _ _ _ _ _ => pg_tup (by rfl) (pgs_cons (pg_name (i := 4) nd rfl (Or.inl rfl)) (pgs_cons (pg_name (i := 5) nd rfl (Or.inl rfl)) pgs_nil))) (fun _ _ _ _ _ => pts_nil) (fun _ _ _ _ _ => pe_op op_modN (pe_op op_sub (pv 4) (pe_op op_mul (pv 2) (pv 5))) (pv 0))))), ?_⟩
    refine s_ret k (((en_map (R' := fun x : Fq q => oF x) (fun p : Fq q × Fq q => p.1 - c * p.2) (ei_zip (ev_var rfl h2) (ev_var rfl h4) hl) (by rw [List.length_zip]; omega) fun p hp Y H1 v l rv => ?_).eq (show _ = tkM x c y from (zw_map (fun a b => a - c * b) x y).symm)).ev (by unfold tkM; rw [List.length_zipWith]; omega)) fun H5 v5 s5 o5 => post H5 v5 s5 o5
    obtain ⟨a, b, ha, hb, tg⟩ := tg2 (K := K) (i := 4) (j := 5) (σ := wipe (start N_law_less [u1, u2, u3, u4]) [4, 5]) rv
    refine ⟨_, tg, rfl, ?_⟩
    exact ev_modF (i := vl p.1 - vl c * vl p.2) (ev_I0 (ev_var rfl ha) (ev_mulR (ev_var rfl (up l h3)) (ev_var rfl hb) (vl_64 p.2))) (ev_var rfl (up l h1)) (by rw [el_sub_mul, el_vl])
/-! def _law_in: slots 0=_law_p 1=_law_form_here 2=_law_row 3=_law_other -/
abbrev N_law_in : List Str := ["_law_p", "_law_form_here", "_law_row", "_law_other"]
theorem sc_law_in : FnScope N_law_in ["_law_p", "_law_form_here", "_law_row"] (defScope (topS 62)) := ⟨rfl, rfl, rfl, by decide +kernel, rfl, by decide +kernel, by decide +kernel⟩
theorem ev_index {q : Pm} {r : List (Fq q)} (hd : leadM r = some (ld r)) (one : vc r (ld r) = 1) (h : EvP ta σ X H (oRow r)) (hb : EvP tb σ X H (oI 1)) : EvP (tBM K "list" (rIndex K) ta (tCons tb tNil)) σ X H (oN (ld r)) := fun Y H1 lt Q qq =>
  h Y H1 lt _ fun H2 v s o => by
    obtain ⟨b, rfl, nb, hbb⟩ := row_at o
    refine ⟨.inl ⟨rfl, _, .inl (.inl hbb)⟩, hb Y H2 (lt.same s) _ fun H3 y s3 o3 => ?_⟩
    have ey : y = .int 1 := o3
    subst ey
    have hl : ld r < r.length := Nat.lt_of_not_le fun z => by rw [vc_ge z] at one; exact Fd.ne one.symm
    have g := vc_get hl
    refine ⟨b, fM r, .int 1, ld r, .int 1, rfl, rfl, .inl (.inl (s3 _ _ hbb)), rfl, ?_, ?_, rfl, fun m z hm hz => ?_, qq H3 _ (s.trans s3) rfl⟩
    · rw [List.all_eq_true]
      intro u hu
      obtain ⟨a, _, rfl⟩ := List.mem_map.mp hu
      rfl
    · unfold fM
      rw [List.getElem?_map, g, one]
      show some (V.int (vl 1)) = _
      rw [vl_one]
    · have h0 := (lead_some.mp hd).2 m hm
      have gm := vc_get (show m < r.length by omega)
      rw [h0] at gm
      unfold fM at hz
      rw [List.getElem?_map, gm] at hz
      have hz : V.int (vl (0 : Fq q)) = z := Option.some.inj hz
      rw [← hz, vl_zero]
      rfl
structure InOk {q : Pm} (n : Nat) (form : List (List (Fq q))) (x : List (Fq q)) : Prop where
  pre : Pre n form
  len : x.length = n
def sp_law_in : L2.Sp := mkSp (ι := (q : Pm) × Nat × List (List (Fq q)) × List (Fq q)) (fun i X H vs => InOk i.2.1 i.2.2.1 i.2.2.2 ∧ a3 (oN i.1.n) (oRows i.2.2.1) (oRow i.2.2.2) X H vs) (fun i => oB (hasM i.2.2.1 i.2.2.2))
theorem ev_law_in {q : Pm} {n : Nat} {form : List (List (Fq q))} {x : List (Fq q)} (hp : Pre n form) (hx : x.length = n) (h1 : EvP ta σ X H (oN q.n)) (h2 : EvP tb σ X H (oRows form)) (h3 : EvP tc σ X H (oRow x)) :
    EvP (tCall sp_law_in [] E0 (tCons ta (tCons tb (tCons tc tNil)))) σ X H (oB (hasM form x)) :=
  ev_call (⟨q, n, form, x⟩ : (q : Pm) × Nat × List (List (Fq q)) × List (Fq q)) (EvA.pre ⟨hp, hx⟩ (ea3 h1 h2 h3))
theorem c_law_in (c_law_less : Ct w K mg base 1 "_law_less" sp_law_less) (T : Tp K mg) : Ct w K mg base 2 "_law_in" sp_law_in := by
  refine ct_mk T (i := 62) (by decide) sc_law_in (fun _ _ _ _ _ _ us hl => match us, hl with | [_, _, _], _ => rfl) (mkSp_len fun i X H vs h => ?_) fun f cdv A outer s H vs Q E hr h => ?_
  · exact a3_len h.2
  · obtain ⟨⟨q, n, form, x⟩, X, k, ⟨⟨hp, hx⟩, u1, u2, u3, rfl, h1, h2, h3⟩, post⟩ := h
    dsimp only at hp hx h1 h2 h3 post
    have nd := sc_law_in.nd
    refine ⟨_, PSs.nox (pss_cons (ps_for PassesOwn.never rfl (pi_listK K (pv 1)) (pg_name (i := 3) nd rfl (Or.inl rfl))
    (pss_one (ps_set (i := 2) nd rfl (.inl rfl) (pe_ct c_law_less hr (by decide) (by rfl) (pa_cons (pv 0) (pa_cons (pv 2) (pa_cons (pe_ix (ix_listK K) (pv 2) (pe_bm PySem.F.plainAttrs_list PySem.F.slot_list_index PySem.F.type_list_index (mt_indexK K) (pv 3) (pa_cons pe_int pa_nil)) (fun _ _ => rfl)) (pa_cons (pv 3) pa_nil))))))))
  (pss_one (ps_ret (pe_not (pe_callB (cr_anyIK K rfl) (by rfl) (T.fr "any" (by decide)) (by decide +kernel) (pa_cons (pv 2) pa_nil)))))), ?_⟩
    refine s_for k (ei_list (ev_var rfl h2)) fun H2 s2 l2 => ?_
    refine ⟨fun i σ1 H3 => (∃ z vf, σ1 = [some u1, some u2, some vf, z] ∧ oRow (leftM (form.take i) x) X H3 vf) ∧ Same H H3, ⟨⟨none, u3, rfl, by rw [List.take_zero]; exact up l2 h3⟩, s2⟩, ?_, ?_⟩
    · rintro i o σ1 H3 H4 vo ho l3 ⟨⟨z, vf, rfl, hf⟩, sa⟩ s4 hvo
      have hm := List.mem_of_getElem? ho
      have hll : (leftM (form.take i) x).length = n := left_len (hp.take i).row hx
      have l4 := l3.same s4
      have lk := l2.trans l4
      refine tg1 _ ?_
      refine s_set1 l4.kn (ev_law_less (q := q) (c := vc (leftM (form.take i) x) (ld o)) (by rw [hll, hp.row o hm]) (ev_var rfl (up lk h1)) (ev_var rfl (rsm s4 hf)) (ev_ix (R := fun a : Fq q => oF a) (i := ld o) (ev_var rfl (rsm s4 hf)) (ev_index (hp.hd o hm) (hp.one o hm) (ev_var rfl hvo) ev_int) (vc_get (by rw [hll]; exact hp.lt Fd.ne hm))) (ev_var rfl hvo)) fun H5 v5 s5 o5 => ?_
      refine ⟨⟨⟨_, _, rfl, ?_⟩, (sa.trans s4).trans s5⟩, l4.same s5⟩
      unfold leftM
      rw [take_fold _ _ ho]
      exact o5
    · rintro σ1 H3 l3 ⟨⟨z, vf, rfl, hf⟩, sa⟩
      rw [take_all] at hf
      refine s_ret l3.kn (ev_notV (ev_anyI (ev_var rfl (row_ints hf)))) fun H5 v5 s5 o5 => post H5 v5 (sa.trans s5) ?_
      rw [any_row, Bool.not_not] at o5
      exact o5
end
end Still

set_option Elab.async false
set_option linter.all false
set_option maxRecDepth 100000
set_option maxHeartbeats 4000000
namespace Still
open PySem PySem.Spec PyProof.Rows L2
section
variable {w : World} {K : PySem.W.Frag} {mg : Str → Option Value} {base : Heap}
variable {σ : L2.St} {X Y : AX} {H H1 : Hp} {ta tb tc td te tf tg' : TE} {t u : TS} {D : Ends} {l : Addr} {N N' : Nat} {A B O : Ob}
theorem s_popAt {α : Type} {R : α → Ob} [∀ x, Rep (R x)] {i j n : Nat} {l : Addr} {acc : List V} {xs : List α} {x : α} (k : Kn Y H) (e : σ[i]? = some (some (.ref l))) (hl : H l = some (.lst acc)) (it : Its R X H acc xs) (hx : xs[n]? = some x) (hn : xs.length ≤ 5000) (h : EvP te σ Y H (oN n))
    (next : ∀ H1 vs v, Same H H1 → Its R X H1 vs (xs.eraseIdx n) → R x X H1 v → u D (σ.set j (some v)) (upd H1 l (.lst vs))) : tSeq (tAsg (tBM K "list" rPopAt (tVar i) (tCons te tNil)) (gName j)) u D σ H := by
  refine ⟨.ref l, e, .inl ⟨rfl, _, .inl (.inl hl)⟩, h Y H (Lt.refl k) _ fun H1 w s o => ?_⟩
  have ew : w = .int (n : Int) := o
  subst ew
  obtain ⟨v, hv, rv⟩ := (it.sm s).get hx
  have hlt : n < acc.length := (List.getElem?_eq_some_iff.mp hv).1
  have hlx : acc.length = xs.length := it.1
  refine ⟨l, acc, n, n, v, rfl, rfl, s _ _ hl, by omega, by omega, (ixN_seq (by unfold ixN; rw [if_pos (by omega), if_pos (by omega), Int.toNat_natCast])).1, hv, next H1 _ v s ⟨?_, fun m u y e1 e2 => ?_⟩ rv⟩
  · rw [List.length_eraseIdx, List.length_eraseIdx, hlx]
  · rw [List.getElem?_eraseIdx] at e1 e2
    split at e1
    · rename_i hm
      rw [if_pos hm] at e2
      exact (it.sm s).2 m u y e1 e2
    · rename_i hm
      rw [if_neg hm] at e2
      exact (it.sm s).2 (m + 1) u y e1 e2
/-! def _law_form: slots 0=_law_p 1=_law_rows 2=_law_row 3=_law_left 4=_law_found 5=_law_place 6=_law_some 7=_law_back_here 8=_law_k 9=_law_number_here 10=_law_other -/
abbrev N_law_form : List Str := ["_law_p", "_law_rows", "_law_row", "_law_left", "_law_found", "_law_place", "_law_some", "_law_back_here", "_law_k", "_law_number_here", "_law_other"]
theorem sc_law_form : FnScope N_law_form ["_law_p", "_law_rows"] (defScope (topS 61)) := ⟨rfl, rfl, rfl, by decide +kernel, rfl, by decide +kernel, by decide +kernel⟩
structure FmOk {q : Pm} (n : Nat) (rows : List (List (Fq q))) : Prop where
  row : ∀ r, r ∈ rows → r.length = n
  top : n ≤ 100
def sp_law_form : L2.Sp := mkSp (ι := (q : Pm) × Nat × List (List (Fq q))) (fun i X H vs => FmOk i.2.1 i.2.2 ∧ a2 (oN i.1.n) (oRows i.2.2) X H vs) (fun i => oRows (lowM i.2.2))
theorem ev_law_form {q : Pm} {n : Nat} {rows : List (List (Fq q))} (ok : FmOk n rows) (h1 : EvP ta σ X H (oN q.n)) (h2 : EvP tb σ X H (oRows rows)) : EvP (tCall sp_law_form [] E0 (tCons ta (tCons tb tNil))) σ X H (oRows (lowM rows)) :=
  ev_call (⟨q, n, rows⟩ : (q : Pm) × Nat × List (List (Fq q))) (EvA.pre ok (ea2 h1 h2))
def FmSt {q : Pm} (n : Nat) (rows : List (List (Fq q))) (X : AX) (H : Hp) (u2 : V) (m : Nat) (σ1 : L2.St) (H4 : Hp) : Prop :=
  ∃ (z2 z6 z7 : Option V) (a : Addr) (acc : List V) (vf : V) (pl : Nat) (left found : List (List (Fq q))), σ1 = [some (.int (q.n : Int)), some u2, z2, some (.ref a), some vf, some (.int (pl : Int)), z6, z7, none, none, none] ∧ Same H H4 ∧ H a = none ∧ H4 a = some (.lst acc) ∧ Kn (hid X a) H4 ∧
      Its (fun r : List (Fq q) => oRow r) (hid X a) H4 acc left ∧ oRows found (hid X a) H4 vf ∧ LfI n rows left found pl ∧ left.length ≤ 5000 ∧ pl ≤ n ∧ m = n - pl
theorem c_law_form (c_law_back : Ct w K mg base 1 "_law_back" sp_law_back) (c_law_less : Ct w K mg base 1 "_law_less" sp_law_less) (T : Tp K mg) : Ct w K mg base 2 "_law_form" sp_law_form := by
  refine ct_mk T (i := 61) (by decide) sc_law_form (fun _ _ _ _ _ _ us hl => match us, hl with | [_, _], _ => rfl) (mkSp_len fun i X H vs h => ?_) fun f cdv A outer s H vs Q E hr h => ?_
  · exact a2_len h.2
  · obtain ⟨⟨q, n, rows⟩, X, k, ⟨⟨hrow, top⟩, u1, u2, rfl, h1, h2⟩, post⟩ := h
    dsimp only at hrow top h1 h2 post
    have nd := sc_law_form.nd
    refine ⟨_, PSs.nox (pss_cons (ps_set (i := 3) nd rfl (.inr rfl) (pe_lc (own := [("_law_row", 2)]) (g := gName 2) (tt := tYes) rfl nd (pi_listK K (pv 1)) (blkOk_by (N := N_law_form) (sc := (defScope (topS 61))) (by decide +kernel)) (fun _ _ _ _ _ => pg_name (i := 2) nd rfl (Or.inl rfl)) (fun _ _ _ _ _ => pts_nil) (fun _ _ _ _ _ => pe_callTy (call_listK K) (by rfl) (T.fr "list" (by decide)) (by decide +kernel) (pa_cons (pv 2) pa_nil))))
  (pss_cons (ps_set (i := 4) nd rfl (.inl rfl) (pe_lst pa_nil))
  (pss_cons (ps_set (i := 5) nd rfl (.inr rfl) pe_int)
  (pss_cons (ps_while PassesOwn.never (PW.pt (pw_and (pt_cmpR op_gt (pe_callB (call_lenK K) (by rfl) (T.fr "len" (by decide)) PySem.boot_len (pa_cons (pv 3) pa_nil)) pe_int (nomark _)) (pw_and1 (pt_cmpR op_lt (pv 5) (pe_callB (call_lenK K) (by rfl) (T.fr "len" (by decide)) PySem.boot_len (pa_cons (pe_ix (ix_listK K) (pv 3) pe_int (fun _ _ => rfl)) pa_nil)) (nomark _)))))
    (pss_cons (ps_setLc (i := 6) (own := [("_law_k", 8)]) (g := gName 8) rfl nd rfl rfl (sw_true rfl rfl rfl (by decide +kernel)) (pi_range1 (by rfl) (T.fr "range" (by decide)) (pa_cons (pe_callB (call_lenK K) (by rfl) (T.fr "len" (by decide)) PySem.boot_len (pa_cons (pv 3) pa_nil)) pa_nil)) (blkOk_by (N := N_law_form) (sc := (defScope (topS 61))) (by decide +kernel)) (fun _ _ _ _ _ => pg_name (i := 8) nd rfl (Or.inl rfl)) (fun _ _ _ _ _ => pts_one (pt_cmpR op_ne (pe_ix (ix_listK K) (pe_ix (ix_listK K) (pv 3) (pv 8) (fun _ _ => rfl)) (pv 5) (fun _ _ => rfl)) pe_int (nomark _))) (fun _ _ _ _ _ => pv 8))
  (pss_cons (ps_if (pt_cmpR op_gt (pe_callB (call_lenK K) (by rfl) (T.fr "len" (by decide)) PySem.boot_len (pa_cons (pv 6) pa_nil)) pe_int (nomark _))
    (pss_cons (ps_set (i := 2) nd rfl (.inr rfl) (pe_bm PySem.F.plainAttrs_list PySem.F.slot_list_pop PySem.F.type_list_pop mt_popAt (pv 3) (pa_cons (pe_ix (ix_listK K) (pv 6) pe_int (fun _ _ => rfl)) pa_nil)))
  (pss_cons (ps_set (i := 7) nd rfl (.inr rfl) (pe_ct c_law_back hr (by decide) (by rfl) (pa_cons (pv 0) (pa_cons (pe_ix (ix_listK K) (pv 2) (pv 5) (fun _ _ => rfl)) pa_nil))))
  (pss_cons (ps_set (i := 2) nd rfl (.inr rfl) (pe_lc (own := [("_law_number_here", 9)]) (g := gName 9) (tt := tYes) rfl nd (pi_listK K (pv 2)) (blkOk_by (N := N_law_form) (sc := (defScope (topS 61))) (by decide +kernel)) (fun _ _ _ _ _ => pg_name (i := 9) nd rfl (Or.inl rfl)) (fun _ _ _ _ _ => pts_nil) (fun _ _ _ _ _ => pe_op op_modN (pe_op op_mul (pv 7) (pv 9)) (pv 0))))
  (pss_cons (ps_set (i := 3) nd rfl (.inr rfl) (pe_lc (own := [("_law_other", 10)]) (g := gName 10) (tt := tYes) rfl nd (pi_listK K (pv 3)) (blkOk_by (N := N_law_form) (sc := (defScope (topS 61))) (by decide +kernel)) (fun _ _ _ _ _ => pg_name (i := 10) nd rfl (Or.inl rfl)) (fun _ _ _ _ _ => pts_nil) (fun _ _ _ _ _ => pe_ct c_law_less hr (by decide) (by rfl) (pa_cons (pv 0) (pa_cons (pv 10) (pa_cons (pe_ix (ix_listK K) (pv 10) (pv 5) (fun _ _ => rfl)) (pa_cons (pv 2) pa_nil)))))))
  (pss_one (ps_set (i := 4) nd rfl (.inl rfl) (pe_op op_cat (pe_lc (own := [("_law_other", 10)]) (g := gName 10) (tt := tYes) rfl nd (pi_listK K (pv 4)) (blkOk_by (N := N_law_form) (sc := (defScope (topS 61))) (by decide +kernel)) (fun _ _ _ _ _ => pg_name (i := 10) nd rfl (Or.inl rfl)) (fun _ _ _ _ _ => pts_nil) (fun _ _ _ _ _ => pe_ct c_law_less hr (by decide) (by rfl) (pa_cons (pv 0) (pa_cons (pv 10) (pa_cons (pe_ix (ix_listK K) (pv 10) (pv 5) (fun _ _ => rfl)) (pa_cons (pv 2) pa_nil)))))) (pe_lst (pa_cons (pv 2) pa_nil))))))))) pss_nil)
  (pss_one (ps_set (i := 5) nd rfl (.inr rfl) (pe_op op_add (pv 5) pe_int))))))
  (pss_one (ps_ret (pv 4))))))), ?_⟩
    have hu : u1 = .int (q.n : Int) := h1
    subst hu
    have pn : ∀ {X : AX} {H : Hp} {v : V} {n : Nat}, v = .int (n : Int) → oN n X H v := fun e => e
    refine s_new k ((en_map (R' := fun r : List (Fq q) => oRow r) (fun r => r) (ei_list (ev_var rfl h2)) (oL_len h2) fun o ho Y H5 v5 l5 rv => ⟨_, tg1, rfl, (en_list (ev_var rfl rv)).ev (oL_len rv)⟩).eq (List.map_id' _)) fun H1 l0 vs0 s1 nl0 el0 it0 l1 => ?_
    refine s_set l1.kn ((en_nil (R := fun r : List (Fq q) => oRow r)).ev (by simp)) fun H2 v2 s2 o2 => ?_
    have l2 := l1.same s2
    refine s_set l2.kn (ev_nat (n := 0)) fun H3 v3 s3 o3 => ?_
    have l3 := l2.same s3
    have e3 : v3 = .int ((0 : Nat) : Int) := o3
    subst e3
    have hrl := oL_len h2
    refine s_while (FmSt n rows X H u2) n ⟨none, none, none, l0, vs0, v2, 0, rows, [], rfl, (s1.trans s2).trans s3, nl0, s3 _ _ (s2 _ _ el0), l3.kn, (it0.sm s2).sm s3, rsm s3 o2, LfI.start hrow, hrl, by omega, by omega⟩ ?_
    rintro m σ1 H4 ⟨z2, z6, z7, a, acc, vf, pl, left, found, rfl, sH, na, ea, ka, ia, of, lf, hll, hpl, rfl⟩
    have k4 : Kn X H4 := kn_wk ka hid_wk
    have nxa : ¬ X a := notKn k na
    have ol : oRows left X H4 (.ref a) := oL.mk nxa ea (ia.dn hid_wk) hll
    have hget : ∀ k, k < left.length → left[k]? = some (left.getD k []) ∧ (left.getD k []).length = n := fun k hk => by
      have e : left[k]? = some (left.getD k []) := by rw [List.getD_eq_getElem?_getD, List.getElem?_eq_getElem hk]; rfl
      exact ⟨e, lf.ll _ (List.mem_of_getElem? e)⟩
    refine ⟨X, decide ((0 : Int) < (left.length : Int)) && decide ((pl : Int) < (n : Int)), k4, et_and (et_test (ev_I0 (ev_len (ev_var rfl ol)) ev_int)) fun hp => ?_, fun hb H5 s5 => ?_, fun hb H5 s5 => ?_⟩
    · have hp := of_decide_eq_true hp
      obtain ⟨g1, g2⟩ := hget 0 (by omega)
      refine (et_test (ev_I0 (ev_var rfl (pn (n := pl) rfl)) (ev_len (ev_ix (R := fun r : List (Fq q) => oRow r) (i := 0) (ev_var rfl ol) ev_nat g1)))).eq ?_
      rw [g2]
    · rw [Bool.and_eq_true, decide_eq_true_eq, decide_eq_true_eq] at hb
      have hl0 : 0 < left.length := by omega
      have hpn : pl < n := by omega
      have k5 := k4.same s5
      have ol5 := rsm s5 ol
      have ea5 := s5 _ _ ea
      have ka5 := ka.same s5
      have ia5 := ia.sm s5
      have of5 := rsm s5 of
      have sH5 := sH.trans s5
      have fin : ∀ (H9 : Hp) (w2 w6 w7 : Option V) (b : Addr) (acc9 : List V) (v9 : V) (left9 found9 : List (List (Fq q))), Same H H9 → H b = none → H9 b = some (.lst acc9) → Kn (hid X b) H9 → Its (fun r : List (Fq q) => oRow r) (hid X b) H9 acc9 left9 → oRows found9 (hid X b) H9 v9 → LfI n rows left9 found9 (pl + 1) → left9.length ≤ 5000 →
          ∀ D : Ends, D.nx = (fun σ' H' => ∃ m', m' < n - pl ∧ FmSt n rows X H u2 m' σ' H') → tAsg (tOp (rI0 fun i j => .int (i + j)) (tVar 5) (tC (.int 1))) (gName 5) D [some (.int (q.n : Int)), some u2, w2, some (.ref b), some v9, some (.int (pl : Int)), w6, w7, none, none, none] H9 := fun H9 w2 w6 w7 b acc9 v9 left9 found9 s9 nb eb kb ib ob lb hb9 D hD =>
        s_set1 kb (ev_add (ev_var rfl (pn (n := pl) rfl)) (ev_nat (n := 1))) fun H10 v10 s10 o10 => by
          have e10 : v10 = .int ((pl + 1 : Nat) : Int) := o10
          subst e10
          rw [hD]
          exact ⟨n - (pl + 1), by omega, w2, w6, w7, b, acc9, v9, pl + 1, left9, found9, rfl, s9.trans s10, nb, s10 _ _ eb, kb.same s10, ib.sm s10, rsm s10 ob, lb, hb9, by omega, rfl⟩
      let tf : Nat → Bool := fun k => decide (vc (left.getD k []) pl ≠ 0)
      refine s_set k5 ((en_lc (R := fun k : Nat => oN k) (R' := fun k : Nat => oN k) (fun k => k) tf (ei_range (ev_len (ev_var rfl ol5)) (by omega)) (by rw [List.length_range]; exact hll) fun o ho Y H6 v6 l6 rv => ⟨_, tg1, rfl, ?_, fun _ => ev_var rfl rv⟩).ev (by rw [List.length_map]; exact Nat.le_trans (List.length_filter_le _ _) (by rw [List.length_range]; exact hll))) fun H6 v6 s6 o6 => ?_
      · obtain ⟨g1, g2⟩ := hget o (List.mem_range.mp ho)
        exact (et_test (ev_ne (u := .int (vl (vc (left.getD o []) pl))) (v := .int 0) (ev_ix (R := fun a : Fq q => oF a) (i := pl) (ev_ix (R := fun r : List (Fq q) => oRow r) (i := o) (ev_var rfl (up l6 ol5)) (ev_var rfl rv) g1) (ev_var rfl (pn (n := pl) rfl)) (vc_get (by omega))) ev_int rfl)).eq vl_ne0
      rw [List.map_id'] at o6
      have k6 := k5.same s6
      refine s_if k6 (et_test (ev_I0 (ev_len (ev_var rfl o6)) ev_int)) (fun hb2 H7 s7 => ?_) fun hb2 H7 s7 => ?_
      · have hsom : 0 < ((List.range left.length).filter tf).length := by have := of_decide_eq_true hb2; omega
        obtain ⟨i0, hi0⟩ : ∃ i0, ((List.range left.length).filter tf)[0]? = some i0 := ⟨_, List.getElem?_eq_getElem hsom⟩
        have him := List.mem_filter.mp (List.mem_of_getElem? hi0)
        obtain ⟨g1, g2⟩ := hget i0 (List.mem_range.mp him.1)
        have hnz : vc (left.getD i0 []) pl ≠ 0 := of_decide_eq_true him.2
        generalize left.getD i0 [] = row at g1 g2 hnz
        have s57 := s6.trans s7
        refine s_popAt (R := fun r : List (Fq q) => oRow r) (X := hid X a) (Y := X) (k6.same s7) rfl (s57 _ _ ea5) (ia5.sm s57) g1 hll (ev_ix (R := fun k : Nat => oN k) (i := 0) (ev_var rfl (rsm s7 o6)) ev_nat hi0) fun H8 vs8 v8 s8 it8 o8 => ?_
        have sH8 := (sH5.trans s57).trans s8
        have k8 : Kn (hid X a) H8 := (ka5.same s57).same s8
        have lw : Lt (hid X a) H8 (hid X a) (upd H8 a (.lst vs8)) := (Lt.refl k8).write (.inr rfl)
        have sH9 : Same H (upd H8 a (.lst vs8)) := same_write sH8 na
        have it9 := it8.up lw
        have o9 := up lw o8
        have of9 := up lw (rsm (s57.trans s8) of5)
        have ea9 : (upd H8 a (.lst vs8)) a = some (.lst vs8) := upd_same
        have k9 := lw.kn
        generalize upd H8 a (.lst vs8) = H9 at *
        refine s_set k9 (ev_law_back hnz (ev_var rfl (pn (n := q.n) rfl)) (ev_ix (R := fun a : Fq q => oF a) (i := pl) (ev_var rfl o9) (ev_var rfl (pn (n := pl) rfl)) (vc_get (by omega)))) fun H10 v10 s10 o10 => ?_
        have k10 := k9.same s10
        have o910 := rsm s10 o9
        refine s_set k10 ((en_map (R' := fun a : Fq q => oF a) (fun b => Fd.inv (vc row pl) * b) (ei_list (ev_var rfl o910)) (by omega) fun b hb Y H11 v11 l11 rv => ⟨_, tg1, rfl, ev_modF (i := vl (Fd.inv (vc row pl)) * vl b) (ev_mulL (ev_var rfl (up l11 o10)) (ev_var rfl rv) (vl_64 _)) (ev_var rfl (pn (n := q.n) rfl)) (vl_mul _ _).symm⟩).ev (by rw [List.length_map]; omega)) fun H11 v11 s11 o11 => ?_
        have o11 : oRow (norM row pl) (hid X a) H11 v11 := o11
        have hnl : (norM row pl).length = n := by unfold norM scM; rw [List.length_map, g2]
        have k11 := k10.same s11
        have kx11 : Kn X H11 := kn_wk k11 hid_wk
        have s911 := s10.trans s11
        have el1 : (left.eraseIdx i0).length ≤ 5000 := Nat.le_trans (List.length_eraseIdx_le _ _) hll
        have ol11 : oRows (left.eraseIdx i0) X H11 (.ref a) := oL.mk nxa (s911 _ _ ea9) ((it9.sm s911).dn hid_wk) el1
        have or11 : oRow (norM row pl) X H11 v11 := dn hid_wk o11
        have hel : ∀ r, r ∈ left.eraseIdx i0 → r.length = n := fun r hr => lf.ll r (List.mem_of_mem_eraseIdx hr)
        refine s_new kx11 (en_map (R' := fun r : List (Fq q) => oRow r) (fun o => tkM o (vc o pl) (norM row pl)) (ei_list (ev_var rfl ol11)) el1 fun o ho Y H12 v12 l12 rv => ⟨_, tg1, rfl, ev_law_less (by rw [hnl, hel o ho]) (ev_var rfl (pn (n := q.n) rfl)) (ev_var rfl rv) (ev_ix (R := fun a : Fq q => oF a) (i := pl) (ev_var rfl rv) (ev_var rfl (pn (n := pl) rfl)) (vc_get (by rw [hel o ho]; omega))) (ev_var rfl (up l12 or11))⟩) fun H12 b vs12 s12 nb eb it12 l12 => ?_
        have sH11 := sH9.trans s911
        have of12 : oRows found (hid X b) H12 vf := up l12 (dn hid_wk (rsm s911 of9))
        have or12 : oRow (norM row pl) (hid X b) H12 v11 := up l12 or11
        have hfl := lo_len lf.lo.toPre
        refine s_set1 l12.kn ((en_cat (R := fun r : List (Fq q) => oRow r) ((en_map (R' := fun r : List (Fq q) => oRow r) (fun o => tkM o (vc o pl) (norM row pl)) (ei_list (ev_var rfl of12)) (oL_len of12) fun o ho Y H13 v13 l13 rv => ⟨_, tg1, rfl, ev_law_less (by rw [hnl, lf.lo.row o ho]) (ev_var rfl (pn (n := q.n) rfl)) (ev_var rfl rv) (ev_ix (R := fun a : Fq q => oF a) (i := pl) (ev_var rfl rv) (ev_var rfl (pn (n := pl) rfl)) (vc_get (by rw [lf.lo.row o ho]; omega))) (ev_var rfl (up l13 or12))⟩).ev (by rw [List.length_map]; exact oL_len of12)) ((en_one (R := fun r : List (Fq q) => oRow r) (ev_var rfl or12)).ev (by simp))).ev (by rw [List.length_append, List.length_map, List.length_singleton]; omega)) fun H13 v13 s13 o13 => ?_
        exact fin H13 _ _ _ b vs12 v13 _ _ ((sH11.trans s12).trans s13) (sH11.free nb) (s13 _ _ eb) (l12.kn.same s13) (it12.sm s13) o13 (lf.step g1 hnz) (by rw [List.length_map]; exact el1) _ rfl
      · have hsom : ((List.range left.length).filter tf).length = 0 := by have := of_decide_eq_false hb2; omega
        have hz : ∀ r, r ∈ left → vc r pl = 0 := fun r hr => by
          obtain ⟨i, hi⟩ := List.getElem?_of_mem hr
          have hil := (List.getElem?_eq_some_iff.mp hi).1
          have hnil := List.length_eq_zero_iff.mp hsom
          rw [List.filter_eq_nil_iff] at hnil
          have := hnil i (List.mem_range.mpr hil)
          have e : left.getD i [] = r := by rw [List.getD_eq_getElem?_getD, hi]; rfl
          show vc r pl = 0
          rw [← e]
          exact Classical.byContradiction fun z => this (decide_eq_true z)
        have s57 := s6.trans s7
        exact fin H7 _ _ _ a acc vf left found (sH5.trans s57) na (s57 _ _ ea5) (ka5.same s57) (ia5.sm s57) (rsm s57 of5) (lf.skip hz) hll _ rfl
    · rw [Bool.and_eq_false_iff, decide_eq_false_iff_not, decide_eq_false_iff_not] at hb
      have he : left = [] ∨ n ≤ pl := by
        rcases hb with h | h
        · exact .inl (List.length_eq_zero_iff.mp (by omega))
        · exact .inr (by omega)
      have e := lf.fin hrow he
      subst e
      exact s_ret (k4.same s5) (ev_var rfl (dn hid_wk (rsm s5 of))) fun H9 v9 s9 o9 => post H9 v9 ((sH.trans s5).trans s9) o9
end
end Still

set_option Elab.async false
set_option linter.all false
set_option maxRecDepth 100000
set_option maxHeartbeats 4000000
namespace Still
open PySem PySem.Spec PyProof.Rows L2
section
variable {w : World} {K : PySem.W.Frag} {mg : Str → Option Value} {base : Heap}
variable {σ : L2.St} {X Y : AX} {H H1 : Hp} {ta tb tc td te tf tg' : TE} {t u : TS} {D : Ends} {l : Addr} {N N' : Nat} {A B O : Ob}
/-! def _law_whole: slots 0=_law_thing 1=_law_end -/
abbrev N_law_whole : List Str := ["_law_thing", "_law_end"]
theorem sc_law_whole : FnScope N_law_whole ["_law_thing", "_law_end"] (defScope (topS 63)) := ⟨rfl, rfl, rfl, by decide +kernel, rfl, by decide +kernel, by decide +kernel⟩
def sp_law_whole : L2.Sp := mkSp (ι := Int × Int) (fun i => a2 (oI i.1) (oI i.2)) (fun i => oB (decide (0 ≤ i.1) && decide (i.1 < i.2)))
theorem ev_law_whole {i hi : Int} (h1 : EvP ta σ X H (oI i)) (h3 : EvP tc σ X H (oI hi)) : EvP (tCall sp_law_whole [] E0 (tCons ta (tCons tc tNil))) σ X H (oB (decide (0 ≤ i) && decide (i < hi))) := ev_call ((i, hi) : Int × Int) (ea2 h1 h3)
theorem c_law_whole (T : Tp K mg) : Ct w K mg base 1 "_law_whole" sp_law_whole := by
  refine ct_mk T (i := 63) (by decide) sc_law_whole (fun _ _ _ _ _ _ us hl => match us, hl with | [_, _], _ => rfl) (mkSp_len fun i X H vs h => ?_) fun f cdv A outer s H vs Q E hr h => ?_
  · exact a2_len h
  · obtain ⟨⟨i, hi⟩, X, k, ⟨u1, u2, rfl, h1, h2⟩, post⟩ := h
    dsimp only at h1 h2 post
    have nd := sc_law_whole.nd
    refine ⟨_, PSs.nox (pss_one (ps_ret (pe_and (pe_callB (call_isiK2 K) (by rfl) (T.fr "isinstance" (by decide)) (by decide +kernel) (pa_cons (pv 0) (pa_cons (pe_bltn (v := .ty "int") (by rfl) (T.fr "int" (by decide)) (by decide +kernel) rfl) pa_nil))) (pe_and (pe_not (pe_callB (call_isiK2 K) (by rfl) (T.fr "isinstance" (by decide)) (by decide +kernel) (pa_cons (pv 0) (pa_cons (pe_bltn (v := .ty "bool") (by rfl) (T.fr "bool" (by decide)) (by decide +kernel) rfl) pa_nil)))) (pe_one (pe_chain op_le op_lt pe_int (pv 0) (pv 1))))))), ?_⟩
    exact s_ret k (ev_andV (ev_isiI kib1 (ev_var rfl h1)) fun _ => ev_andV (ev_notV (ev_isiI kib2 (ev_var rfl h1))) fun _ => ev_chain ev_int (ev_var rfl h1) (ev_var rfl h2)) fun H5 v5 s5 o5 => post H5 v5 s5 o5
/-! def _law_rows_like: slots 0=_law_p 1=_law_length 2=_law_thing 3=_law_row 4=_law_number_here -/
abbrev N_law_rows_like : List Str := ["_law_p", "_law_length", "_law_thing", "_law_row", "_law_number_here"]
theorem sc_law_rows_like : FnScope N_law_rows_like ["_law_p", "_law_length", "_law_thing"] (defScope (topS 64)) := ⟨rfl, rfl, rfl, by decide +kernel, rfl, by decide +kernel, by decide +kernel⟩
def sp_law_rows_like : L2.Sp := mkSp (ι := (q : Pm) × Nat × List (List (Fq q))) (fun i X H vs => FmOk i.2.1 i.2.2 ∧ a3 (oN i.1.n) (oN i.2.1) (oRows i.2.2) X H vs) (fun i => oB true)
theorem ev_law_rows_like {q : Pm} {n : Nat} {rows : List (List (Fq q))} (ok : FmOk n rows) (h1 : EvP ta σ X H (oN q.n)) (h2 : EvP tb σ X H (oN n)) (h3 : EvP tc σ X H (oRows rows)) : EvP (tCall sp_law_rows_like [] E0 (tCons ta (tCons tb (tCons tc tNil)))) σ X H (oB true) :=
  ev_call (⟨q, n, rows⟩ : (q : Pm) × Nat × List (List (Fq q))) (EvA.pre ok (ea3 h1 h2 h3))
theorem c_law_rows_like (c_law_whole : Ct w K mg base 1 "_law_whole" sp_law_whole) (T : Tp K mg) : Ct w K mg base 2 "_law_rows_like" sp_law_rows_like := by
  refine ct_mk T (i := 64) (by decide) sc_law_rows_like (fun _ _ _ _ _ _ us hl => match us, hl with | [_, _, _], _ => rfl) (mkSp_len fun i X H vs h => ?_) fun f cdv A outer s H vs Q E hr h => ?_
  · exact a3_len h.2
  · obtain ⟨⟨q, n, rows⟩, X, k, ⟨⟨hrow, top⟩, u1, u2, u3, rfl, h1, h2, h3⟩, post⟩ := h
    dsimp only at hrow top h1 h2 h3 post
    have nd := sc_law_rows_like.nd
    refine ⟨_, PSs.nox (pss_cons (ps_if (pt_not (pt_val (pe_callB (call_isiK2 K) (by rfl) (T.fr "isinstance" (by decide)) (by decide +kernel) (pa_cons (pv 2) (pa_cons (pe_bltn (v := .ty "list") (by rfl) (T.fr "list" (by decide)) (by decide +kernel) rfl) pa_nil)))))
    (pss_one (ps_ret pe_bl)) pss_nil)
  (pss_cons (ps_for PassesOwn.never rfl (pi_listK K (pv 2)) (pg_name (i := 3) nd rfl (Or.inl rfl))
    (pss_cons (ps_if (PW.pt (pw_or (pt_not (pt_val (pe_callB (call_isiK2 K) (by rfl) (T.fr "isinstance" (by decide)) (by decide +kernel) (pa_cons (pv 3) (pa_cons (pe_bltn (v := .ty "list") (by rfl) (T.fr "list" (by decide)) (by decide +kernel) rfl) pa_nil))))) (pw_or1 (pt_cmpR op_ne (pe_callB (call_lenK K) (by rfl) (T.fr "len" (by decide)) PySem.boot_len (pa_cons (pv 3) pa_nil)) (pv 1) (nomark _)))))
    (pss_one (ps_ret pe_bl)) pss_nil)
  (pss_one (ps_if (pt_not (pt_val (pe_callB (cr_allK K rfl) (by rfl) (T.fr "all" (by decide)) (by decide +kernel) (pa_cons (pe_lc (own := [("_law_number_here", 4)]) (g := gName 4) (tt := tYes) rfl nd (pi_listK K (pv 3)) (blkOk_by (N := N_law_rows_like) (sc := (defScope (topS 64))) (by decide +kernel)) (fun _ _ _ _ _ => pg_name (i := 4) nd rfl (Or.inl rfl)) (fun _ _ _ _ _ => pts_nil) (fun _ _ _ _ _ => pe_ct c_law_whole hr (by decide) (by rfl) (pa_cons (pv 4) (pa_cons (pv 0) pa_nil)))) pa_nil))))
    (pss_one (ps_ret pe_bl)) pss_nil))))
  (pss_one (ps_ret pe_bl)))), ?_⟩
    refine s_if k (et_not (et_B (ev_isiL kib3 (ev_var rfl h3)))) (fun hb => by simp at hb) fun _ H1 s1 => ?_
    have k1 := k.same s1
    have h11 := rsm s1 h1
    have h21 := rsm s1 h2
    refine s_for k1 (ei_list (ev_var rfl (rsm s1 h3))) fun H2 s2 l2 => ?_
    refine ⟨fun i σ1 H3 => (∃ z, σ1 = [some u1, some u2, some u3, z, none]) ∧ Same H H3, ⟨⟨none, rfl⟩, s1.trans s2⟩, ?_, ?_⟩
    · rintro i o σ1 H3 H4 vo ho l3 ⟨⟨z, rfl⟩, sa⟩ s4 hvo
      have l4 := l3.same s4
      have lk := l2.trans l4
      have hrl := hrow o (List.mem_of_getElem? ho)
      have h24 := up lk h21
      have h14 := up lk h11
      refine tg1 _ ?_
      refine s_if l4.kn (et_or (et_not (et_B (ev_isiL kib3 (ev_var rfl hvo)))) fun _ => et_test (ev_ne (ev_len (ev_var rfl hvo)) (ev_var rfl h24) rfl)) (fun hb => by rw [dec_nat, hrl] at hb; simp at hb) fun _ H5 s5 => ?_
      have l5 := l4.same s5
      have h15 := rsm s5 h14
      have hvo5 := rsm s5 hvo
      refine s_if1 l5.kn (et_not (et_B (ev_allM (xs := o) (f := fun a => decide ((0 : Int) ≤ vl a) && decide (vl a < q.n)) ((en_map (R' := fun b : Bool => oB b) _ (ei_list (ev_var rfl hvo5)) (oL_len hvo) fun a ha Y H6 v6 l6 rv => ⟨_, tg1, rfl, ev_law_whole (ev_var rfl rv) (ev_var rfl (up l6 h15))⟩).ev (by rw [List.length_map]; exact oL_len hvo))))) (fun hb H6 s6 => ?_) fun _ H6 s6 => ⟨⟨⟨_, rfl⟩, ((sa.trans s4).trans s5).trans s6⟩, l5.same s6⟩
      exfalso
      have e : (o.all fun a => decide ((0 : Int) ≤ vl a) && decide (vl a < q.n)) = true := by
        rw [List.all_eq_true]
        intro a _
        rw [decide_eq_true (vl_lo a), decide_eq_true (vl_hi a)]; rfl
      rw [e] at hb
      simp at hb
    · rintro σ1 H3 l3 ⟨⟨z, rfl⟩, sa⟩
      exact s_ret l3.kn ev_c fun H5 v5 s5 o5 => post H5 v5 (sa.trans s5) o5
/-! def _law_spin: slots 0=_law_p 1=_law_size 2=_law_tables 3=_law_rows 4=_law_form_here 5=_law_waiting 6=_law_here 7=_law_table 8=_law_there -/
abbrev N_law_spin : List Str := ["_law_p", "_law_size", "_law_tables", "_law_rows", "_law_form_here", "_law_waiting", "_law_here", "_law_table", "_law_there"]
theorem sc_law_spin : FnScope N_law_spin ["_law_p", "_law_size", "_law_tables", "_law_rows"] (defScope (topS 74)) := ⟨rfl, rfl, rfl, by decide +kernel, rfl, by decide +kernel, by decide +kernel⟩
abbrev SpnI (q : Pm) : Type := Nat × List (List (List (Fq q))) × List (List (Fq q))
def sp_law_spin : L2.Sp := mkSp (ι := (q : Pm) × SpnI q) (fun i X H vs => SpnOk i.2.1 i.2.2.1 i.2.2.2 ∧ a4 (oN i.1.n) (oN i.2.1) (oTabs i.2.2.1) (oRows i.2.2.2) X H vs) (fun i => oEx (fun f : List (List (Fq i.1)) => oRows f) (Spun i.2.1 i.2.2.1 i.2.2.2))
theorem ev_law_spin {q : Pm} {n : Nat} {tabs : List (List (List (Fq q)))} {rows : List (List (Fq q))} (hp : SpnOk n tabs rows) (h1 : EvP ta σ X H (oN q.n)) (h2 : EvP tb σ X H (oN n)) (h3 : EvP tc σ X H (oTabs tabs)) (h4 : EvP td σ X H (oRows rows)) : EvP (tCall sp_law_spin [] E0 (tCons ta (tCons tb (tCons tc (tCons td tNil))))) σ X H (oEx (fun f : List (List (Fq q)) => oRows f) (Spun n tabs rows)) :=
  ev_call (⟨q, n, tabs, rows⟩ : (q : Pm) × SpnI q) (EvA.pre hp (ea4 h1 h2 h3 h4))
theorem c_law_spin (c_law_form : Ct w K mg base 2 "_law_form" sp_law_form) (c_law_led : Ct w K mg base 2 "_law_led" sp_law_led) (c_law_in : Ct w K mg base 2 "_law_in" sp_law_in) (T : Tp K mg) : Ct w K mg base 3 "_law_spin" sp_law_spin := by
  refine ct_mk T (i := 74) (by decide) sc_law_spin (fun _ _ _ _ _ _ us hl => match us, hl with | [_, _, _, _], _ => rfl) (mkSp_len fun i X H vs h => ?_) fun f cdv A outer s H vs Q E hr h => ?_
  · exact a4_len h.2
  · obtain ⟨⟨q, n, tabs, rows⟩, X, k, ⟨⟨ok, hrow⟩, u1, u2, u3, u4, rfl, h1, h2, h3, h4⟩, post⟩ := h
    dsimp only at ok hrow h1 h2 h3 h4 post
    have nd := sc_law_spin.nd
    refine ⟨_, PSs.nox (pss_cons (ps_set (i := 4) nd rfl (.inl rfl) (pe_ct c_law_form hr (by decide) (by rfl) (pa_cons (pv 0) (pa_cons (pv 3) pa_nil))))
  (pss_cons (ps_set (i := 5) nd rfl (.inl rfl) (pe_callTy (call_listK K) (by rfl) (T.fr "list" (by decide)) (by decide +kernel) (pa_cons (pv 4) pa_nil)))
  (pss_cons (ps_while PassesOwn.never (PW.pt (pw_and (pt_cmpR op_gt (pe_callB (call_lenK K) (by rfl) (T.fr "len" (by decide)) PySem.boot_len (pa_cons (pv 5) pa_nil)) pe_int (nomark _)) (pw_and1 (pt_cmpR op_lt (pe_callB (call_lenK K) (by rfl) (T.fr "len" (by decide)) PySem.boot_len (pa_cons (pv 4) pa_nil)) (pv 1) (nomark _)))))
    (pss_cons (ps_set (i := 6) nd rfl (.inl rfl) (pe_bm0 PySem.F.plainAttrs_list PySem.F.slot_list_pop PySem.F.type_list_pop mt_pop (pv 5)))
  (pss_one (ps_for PassesOwn.never rfl (pi_listK K (pv 2)) (pg_name (i := 7) nd rfl (Or.inl rfl))
    (pss_cons (ps_set (i := 8) nd rfl (.inl rfl) (pe_ct c_law_led hr (by decide) (by rfl) (pa_cons (pv 0) (pa_cons (pv 6) (pa_cons (pv 7) pa_nil)))))
  (pss_one (ps_if (pt_not (pt_val (pe_ct c_law_in hr (by decide) (by rfl) (pa_cons (pv 0) (pa_cons (pv 4) (pa_cons (pv 8) pa_nil))))))
    (pss_cons (ps_set (i := 4) nd rfl (.inl rfl) (pe_ct c_law_form hr (by decide) (by rfl) (pa_cons (pv 0) (pa_cons (pe_op op_cat (pv 4) (pe_lst (pa_cons (pv 8) pa_nil))) pa_nil))))
  (pss_one (ps_expr (pe_bm PySem.F.plainAttrs_list PySem.F.slot_list_append PySem.F.type_list_append mt_append (pv 5) (pa_cons (pv 8) pa_nil))))) pss_nil)))))))
  (pss_one (ps_ret (pv 4)))))), ?_⟩
    have hx : u1 = .int (q.n : Int) := h1
    have hy : u2 = .int (n : Int) := h2
    have px : ∀ {X H}, oN q.n X H u1 := fun {_ _} => hx
    have py : ∀ {X H}, oN n X H u2 := fun {_ _} => hy
    have htop := ok.top
    refine s_set k (ev_law_form (n := n) ⟨hrow, by omega⟩ (ev_var rfl px) (ev_var rfl h4)) fun H2 v2 s2 o2 => ?_
    have k2 := k.same s2
    have hz2 := rsm s2 h3
    refine s_new k2 (en_list (ev_var rfl o2)) fun H3 l vs s3 nl el it3 l3 => ?_
    have hl0 : H l = none := s2.free nl
    have hz3 := up l3 hz2
    have hlow := lo_len (low_lo (n := n) hrow).toPre
    refine s_while (fun m σ1 H4 => ∃ form wt vf acc y7 y8 y9, σ1 = [some u1, some u2, some u3, some u4, some vf, some (.ref l), y7, y8, y9] ∧ oRows form (hid X l) H4 vf ∧ H4 l = some (.lst acc) ∧ Its (fun r : List (Fq q) => oRow r) (hid X l) H4 acc wt ∧ SpI n tabs rows form wt [] 0 ∧ (wt.length + (n - form.length) = m ∧ m ≤ n) ∧ Lt (hid X l) H3 (hid X l) H4 ∧ Same H H4)
      n ⟨lowM rows, lowM rows, v2, vs, none, none, none, rfl, up l3 o2, el, it3, SpI.start hrow, ⟨by omega, Nat.le_refl _⟩, Lt.refl l3.kn, s2.trans s3⟩ ?_
    rintro m σ1 H4 ⟨form, wt, vf, acc, y7, y8, y9, rfl, hvf, ea, ia, spi, ⟨hm, hmn⟩, l4, sa⟩
    have hnl : ¬ X l := notKn k2 nl
    have k4 : Kn X H4 := kn_wk l4.kn hid_wk
    have ow : oRows wt X H4 (.ref l) := oL.mk hnl ea (ia.dn hid_wk) (by omega)
    have of4 : oRows form X H4 vf := dn hid_wk hvf
    have hfl := lo_len spi.lo.toPre
    refine ⟨X, decide ((0 : Int) < (wt.length : Int)) && decide ((form.length : Int) < (n : Int)), k4, et_and (et_test (ev_I0 (ev_len (ev_var rfl ow)) ev_int)) (fun _ => et_test (ev_I0 (ev_len (ev_var rfl of4)) (ev_var rfl py))), fun hb H5 s5 => ?_, fun hb H5 s5 => ?_⟩
    · rw [Bool.and_eq_true, decide_eq_true_eq, decide_eq_true_eq] at hb
      have hne : wt ≠ [] := fun z => by rw [z] at hb; simp at hb
      have ew : wt = wt.dropLast ++ [wt.getLast hne] := (List.dropLast_concat_getLast hne).symm
      generalize wt.dropLast = w0 at ew
      generalize wt.getLast hne = row at ew
      subst ew
      have l5 := l4.same s5
      refine s_pop rfl (s5 _ _ ea) (ia.sm s5) fun vs0 v eacc iv ov => ?_
      subst eacc
      have lw : Lt (hid X l) H5 (hid X l) (upd H5 l (.lst vs0)) := (Lt.refl l5.kn).write (.inr rfl)
      have l6 := l5.trans lw
      have hvf6 := up lw (rsm s5 hvf)
      have ov6 := up lw ov
      have iv6 := iv.up lw
      have sp0 := spi.pop
      rw [List.length_append, List.length_singleton] at hm
      refine s_for1 l6.kn (ei_list (ev_var rfl (up l6 hz3))) fun H7 s7 l7 => ?_
      refine ⟨fun i σ2 H8 => ∃ form wt vf acc y8 y9, σ2 = [some u1, some u2, some u3, some u4, some vf, some (.ref l), some v, y8, y9] ∧ oRows form (hid X l) H8 vf ∧ H8 l = some (.lst acc) ∧ Its (fun r : List (Fq q) => oRow r) (hid X l) H8 acc wt ∧ SpI n tabs rows form wt [row] i ∧ wt.length + (n - form.length) + 1 = m ∧ Same H H8,
        ⟨form, w0, vf, vs0, y8, y9, rfl, rsm s7 hvf6, s7 _ _ upd_same, iv6.sm s7, sp0, by omega, (same_write (sa.trans s5) hl0).trans s7⟩, ?_, ?_⟩
      · rintro i A σ2 H8 H9 vA hA l8 ⟨form, wt, vf, acc, y8, y9, rfl, of8, ea8, ia8, sp8, hm8, sa8⟩ s9 hvA
        have l9 := l8.same s9
        have k9 := l9.kn
        have hAm := List.mem_of_getElem? hA
        have ov9 : oRow row (hid X l) H9 v := up (l7.trans l9) ov6
        have hrl : row.length = n := (sp8.wl row (by simp)).1
        refine tg1 _ ?_
        refine s_set k9 (ev_law_led (ok.led hAm hrl) (ev_var rfl px) (ev_var rfl ov9) (ev_var rfl hvA)) fun H10 v10 s10 o10 => ?_
        have k10 := k9.same s10
        have of10 := rsm (s9.trans s10) of8
        have hll := ok.ledn hAm hrl
        have hfl8 := lo_len sp8.lo.toPre
        refine s_if1 k10 (et_not (et_B (ev_law_in sp8.lo.toPre hll (ev_var rfl px) (ev_var rfl of10) (ev_var rfl o10)))) (fun hb H11 s11 => ?_) fun hb H11 s11 => ?_
        · have hh : hasM form (ledM row A) = false := by simpa using hb
          have k11 := k10.same s11
          have spg := sp8.grow ok.sq ok.pos hA
          have hl2 := lo_len spg.lo.toPre
          have hwl := wr_len (n := n) hh
          have hro : ∀ r, r ∈ form ++ [ledM row A] → r.length = n := fun r hr => by
            rcases List.mem_append.mp hr with hr | hr
            · exact sp8.lo.row r hr
            · rw [List.mem_singleton] at hr
              rw [hr]; exact hll
          refine s_set k11 ((ev_law_form (n := n) (rows := form ++ [ledM row A]) ⟨hro, by omega⟩ (ev_var rfl px) ((en_cat (R := fun r : List (Fq q) => oRow r) (ev_var rfl (rsm s11 of10)) ((en_one (R := fun r : List (Fq q) => oRow r) (ev_var rfl (rsm s11 o10))).ev (by simp))).ev (by rw [List.length_append, List.length_singleton]; omega))).eq (by rw [wr_low sp8.lo hll])) fun H12 v12 s12 o12 => ?_
          have k12 := k11.same s12
          have s912 := s9.trans (s10.trans (s11.trans s12))
          refine s_append k12 rfl (s912 _ _ ea8) (by rw [ia8.1]; omega) (ev_var rfl (rsm (s11.trans s12) o10)) fun H13 v13 s13 o13 => ?_
          have lw13 : Lt (hid X l) H13 (hid X l) (upd H13 l (.lst (acc ++ [v13]))) := (Lt.refl (k12.same s13)).write (.inr rfl)
          refine ⟨⟨wrM form (ledM row A), wt ++ [ledM row A], v12, acc ++ [v13], _, _, rfl, up lw13 (rsm s13 o12), upd_same, (((ia8.sm s912).sm s13).up lw13).snoc (up lw13 o13), spg, by rw [List.length_append, List.length_singleton, hwl]; omega, same_write ((sa8.trans s912).trans s13) hl0⟩, ((l9.same s10).trans (((Lt.refl k10).same s11).same (s12.trans s13))).trans lw13⟩
        · have hh : hasM form (ledM row A) = true := by simpa using hb
          exact ⟨⟨form, wt, vf, acc, _, _, rfl, rsm s11 of10, s11 _ _ (s10 _ _ (s9 _ _ ea8)), ((ia8.sm s9).sm s10).sm s11, sp8.keep ok.sq ok.pos hA hh, hm8, sa8.trans (s9.trans (s10.trans s11))⟩, ((l9.same s10).same s11)⟩
      · rintro σ2 H8 l8 ⟨form, wt, vf, acc, y8, y9, rfl, of8, ea8, ia8, sp8, hm8, sa8⟩
        exact ⟨m - 1, by omega, form, wt, vf, acc, _, _, _, rfl, of8, ea8, ia8, sp8.next, ⟨by omega, by omega⟩, l6.trans (l7.trans l8), sa8⟩
    · have sp : Spun n tabs rows form := by
        cases wt with
        | nil => exact spi.end1
        | cons r t =>
          refine spi.end2 ok.sq ?_
          rw [List.length_cons] at hb
          simp at hb
          omega
      exact s_ret (k4.same s5) (ev_var rfl (rsm s5 of4)) fun H6 v6 s6 o6 => post H6 v6 ((sa.trans s5).trans s6) ⟨form, sp, o6⟩
/-! def _law_unit: slots 0=_law_size 1=_law_j 2=_law_i -/
abbrev N_law_unit : List Str := ["_law_size", "_law_j", "_law_i"]
theorem sc_law_unit : FnScope N_law_unit ["_law_size"] (defScope (topS 77)) := ⟨rfl, rfl, rfl, by decide +kernel, rfl, by decide +kernel, by decide +kernel⟩
def sp_law_unit : L2.Sp := mkSp (ι := (q : Pm) × Nat) (fun i X H vs => i.2 ≤ 5000 ∧ a1 (oN i.2) X H vs) (fun i => oRows (plainM (F := Fq i.1) i.2))
theorem ev_law_unit {q : Pm} {n : Nat} (hn : n ≤ 5000) (h1 : EvP ta σ X H (oN n)) : EvP (tCall sp_law_unit [] E0 (tCons ta tNil)) σ X H (oRows (plainM (F := Fq q) n)) :=
  ev_call (⟨q, n⟩ : (q : Pm) × Nat) (EvA.pre hn (ea1 h1))
theorem c_law_unit (T : Tp K mg) : Ct w K mg base 1 "_law_unit" sp_law_unit := by
  refine ct_mk T (i := 77) (by decide) sc_law_unit (fun _ _ _ _ _ _ us hl => match us, hl with | [_], _ => rfl) (mkSp_len fun i X H vs h => ?_) fun f cdv A outer s H vs Q E hr h => ?_
  · exact a1_len h.2
  · obtain ⟨⟨q, n⟩, X, k, ⟨hn, u1, rfl, h1⟩, post⟩ := h
    dsimp only at hn h1 post
    have nd := sc_law_unit.nd
    refine ⟨_, PSs.nox (pss_one (ps_ret (pe_lc (own := [("_law_i", 2)]) (g := gName 2) (tt := tYes) rfl nd (pi_range1 (by rfl) (T.fr "range" (by decide)) (pa_cons (pv 0) pa_nil)) (blkOk_by (N := N_law_unit) (sc := (defScope (topS 77))) (by decide +kernel)) (fun _ _ _ _ _ => pg_name (i := 2) nd rfl (Or.inr rfl)) (fun _ _ _ _ _ => pts_nil) (fun _ _ _ _ _ => pe_lc (own := [("_law_j", 1)]) (g := gName 1) (tt := tYes) rfl nd (pi_range1 (by rfl) (T.fr "range" (by decide)) (pa_cons (pv 0) pa_nil)) (blkOk_by (N := N_law_unit) (sc := ({ kind := .function, names := [(".0", .local), ("_law_i", .cell), ("range", .globalImplicit), ("_law_size", .cell)], isGenerator := false, isCoroutine := false, more := [] } : Scope)) (by decide +kernel)) (fun _ _ _ _ _ => pg_name (i := 1) nd rfl (Or.inl rfl)) (fun _ _ _ _ _ => pts_nil) (fun _ _ _ _ _ => pe_callTy call_int1 (by rfl) (T.fr "int" (by decide)) boot_int (pa_cons (pe_cmpR op_eq (pv 2) (pv 1) (nomark _)) pa_nil)))))), ?_⟩
    refine s_ret k (((en_map (R := fun j : Nat => oN j) (R' := fun r : List (Fq q) => oRow r) (fun i => uM n i) (ei_range (n := n) (ev_var rfl h1) (by omega)) (by rw [List.length_range]; exact hn) fun i hi Y H5 v5 l5 rv => ?_).ev (by rw [List.length_map, List.length_range]; exact hn))) fun H5 v5 s5 o5 => post H5 v5 s5 o5
    refine ⟨_, tg1, rfl, (en_map (R := fun j : Nat => oN j) (R' := fun a : Fq q => oF a) (fun j => if j = i then 1 else 0) (ei_range (n := n) (ev_var rfl (up l5 h1)) (by omega)) (by rw [List.length_range]; exact hn) fun j hj Y2 H6 v6 l6 rv6 => ⟨_, tg1, rfl, ?_⟩).ev (by rw [List.length_map, List.length_range]; exact hn)⟩
    refine (ev_intB (ev_eq (ev_var rfl (up l6 rv)) (ev_var rfl rv6) rfl)).eq ?_
    rw [dec_nat, bit_of (q := q)]
    congr 1
    by_cases e : j = i
    · subst e; simp
    · have : ¬ i = j := fun z => e z.symm
      simp [e, this]
/-! def _law_lead: slots 0=_law_row 1=_law_place -/
abbrev N_law_lead : List Str := ["_law_row", "_law_place"]
theorem sc_law_lead : FnScope N_law_lead ["_law_row"] (defScope (topS 78)) := ⟨rfl, rfl, rfl, by decide +kernel, rfl, by decide +kernel, by decide +kernel⟩
def sp_law_lead : L2.Sp := mkSp (ι := (q : Pm) × List (Fq q)) (fun i X H vs => leadM i.2 = some (ld i.2) ∧ a1 (oRow i.2) X H vs) (fun i => oN (ld i.2))
theorem ev_law_lead {q : Pm} {r : List (Fq q)} (hd : leadM r = some (ld r)) (h : EvP ta σ X H (oRow r)) : EvP (tCall sp_law_lead [] E0 (tCons ta tNil)) σ X H (oN (ld r)) := ev_call (⟨q, r⟩ : (q : Pm) × List (Fq q)) (EvA.pre hd (ea1 h))
theorem filt_first {p : Nat → Bool} {n m : Nat} (hm : m < n) (h1 : p m = true) (h2 : ∀ k, k < m → p k = false) : ((List.range n).filter p)[0]? = some m := by
  have e : List.range n = List.range m ++ (m :: (List.range (n - m - 1)).map fun k => m + 1 + k) := by
    rw [show n = m + (1 + (n - m - 1)) by omega, List.range_add, List.range_add]
    congr 1
    rw [List.map_append]
    show [m + 0] ++ _ = _
    rw [show m + (1 + (n - m - 1)) - m - 1 = n - m - 1 by omega, List.map_map]
    show m :: _ = m :: _
    congr 1
    exact List.map_congr_left fun k _ => by show m + (1 + k) = m + 1 + k; omega
  rw [e, List.filter_append, List.filter_eq_nil_iff.mpr (fun k hk => by rw [h2 k (List.mem_range.mp hk)]; simp), List.nil_append, List.filter_cons, if_pos h1]
  rfl
theorem c_law_lead (T : Tp K mg) : Ct w K mg base 1 "_law_lead" sp_law_lead := by
  refine ct_mk T (i := 78) (by decide) sc_law_lead (fun _ _ _ _ _ _ us hl => match us, hl with | [_], _ => rfl) (mkSp_len fun i X H vs h => ?_) fun f cdv A outer s H vs Q E hr h => ?_
  · exact a1_len h.2
  · obtain ⟨⟨q, r⟩, X, k, ⟨hd, u1, rfl, h1⟩, post⟩ := h
    dsimp only at hd h1 post
    have nd := sc_law_lead.nd
    refine ⟨_, PSs.nox (pss_one (ps_ret (pe_ix (ix_listK K) (pe_lc (own := [("_law_place", 1)]) (g := gName 1) rfl nd (pi_range1 (by rfl) (T.fr "range" (by decide)) (pa_cons (pe_callB (call_lenK K) (by rfl) (T.fr "len" (by decide)) PySem.boot_len (pa_cons (pv 0) pa_nil)) pa_nil)) (blkOk_by (N := N_law_lead) (sc := (defScope (topS 78))) (by decide +kernel)) (fun _ _ _ _ _ => pg_name (i := 1) nd rfl (Or.inl rfl)) (fun _ _ _ _ _ => pts_one (pt_cmpR op_ne (pe_ix (ix_listK K) (pv 0) (pv 1) (fun _ _ => rfl)) pe_int (nomark _))) (fun _ _ _ _ _ => pv 1)) pe_int (fun _ _ => rfl)))), ?_⟩
    have hs := lead_some.mp hd
    have hl : ld r < r.length := Nat.lt_of_not_le fun z => hs.1 (vc_ge z)
    have hb := oL_len h1
    refine s_ret k (ev_ix (R := fun k : Nat => oN k) (x := ld r) (i := 0) ((((en_lc (R := fun k : Nat => oN k) (R' := fun k : Nat => oN k) (fun k => k) (fun k : Nat => decide (vc r k ≠ 0)) (ei_range (ev_len (ev_var rfl h1)) (by omega)) (by rw [List.length_range]; exact hb) fun o ho Y H5 v5 l5 rv => ⟨_, tg1, rfl, ?_, fun _ => ev_var rfl rv⟩).eq (List.map_id' _)).ev (Nat.le_trans (List.length_filter_le _ _) (by rw [List.length_range]; exact hb)))) ev_nat (filt_first hl (by simpa using hs.1) fun k hk => by simpa using hs.2 k hk)) fun H5 v5 s5 o5 => post H5 v5 s5 o5
    exact (et_test (ev_ne (u := .int (vl (vc r o))) (v := .int 0) (ev_ix (R := fun a : Fq q => oF a) (i := o) (ev_var rfl (up l5 h1)) (ev_var rfl rv) (vc_get (List.mem_range.mp ho))) ev_int rfl)).eq vl_ne0
/-! def _law_is_still: slots 0=_law_crew_here 1=_law_form_here 2=_law_p 3=_law_size 4=_law_tables 5=_law_row 6=_law_table -/
abbrev N_law_is_still : List Str := ["_law_crew_here", "_law_form_here", "_law_p", "_law_size", "_law_tables", "_law_row", "_law_table"]
theorem sc_law_is_still : FnScope N_law_is_still ["_law_crew_here", "_law_form_here"] (defScope (topS 80)) := ⟨rfl, rfl, rfl, by decide +kernel, rfl, by decide +kernel, by decide +kernel⟩
def sp_law_is_still : L2.Sp := mkSp (ι := (q : Pm) × FoI q) (fun i X H vs => (StOk i.2.1 i.2.2.1 i.2.2.2 ∧ stillM i.2.2.1 i.2.2.2 = true) ∧ a2 (oCrew i.2.1 i.2.2.1) (oRows i.2.2.2) X H vs) (fun i => oB true)
theorem ev_law_is_still {q : Pm} {n : Nat} {tabs : List (List (List (Fq q)))} {form : List (List (Fq q))} (hp : StOk n tabs form) (hs : stillM tabs form = true) (h1 : EvP ta σ X H (oCrew n tabs)) (h2 : EvP tb σ X H (oRows form)) : EvP (tCall sp_law_is_still [] E0 (tCons ta (tCons tb tNil))) σ X H (oB true) :=
  ev_call (⟨q, n, tabs, form⟩ : (q : Pm) × FoI q) (EvA.pre ⟨hp, hs⟩ (ea2 h1 h2))
theorem c_law_is_still (c_law_in : Ct w K mg base 2 "_law_in" sp_law_in) (c_law_led : Ct w K mg base 2 "_law_led" sp_law_led) (T : Tp K mg) : Ct w K mg base 3 "_law_is_still" sp_law_is_still := by
  refine ct_mk T (i := 80) (by decide) sc_law_is_still (fun _ _ _ _ _ _ us hl => match us, hl with | [_, _], _ => rfl) (mkSp_len fun i X H vs h => ?_) fun f cdv A outer s H vs Q E hr h => ?_
  · exact a2_len h.2
  · obtain ⟨⟨q, n, tabs, form⟩, X, k, ⟨⟨⟨ok, hlo⟩, hst⟩, u1, u2, rfl, h1, h2⟩, post⟩ := h
    dsimp only at ok hlo hst h1 h2 post
    have nd := sc_law_is_still.nd
    refine ⟨_, PSs.nox (pss_cons (ps_asg (pv 0) (pg_tup (by rfl) (pgs_cons (pg_name (i := 2) nd rfl (Or.inl rfl)) (pgs_cons (pg_name (i := 3) nd rfl (Or.inl rfl)) (pgs_cons (pg_name (i := 4) nd rfl (Or.inl rfl)) pgs_nil)))))
  (pss_cons (ps_for PassesOwn.never rfl (pi_listK K (pv 1)) (pg_name (i := 5) nd rfl (Or.inl rfl))
    (pss_one (ps_for PassesOwn.never rfl (pi_listK K (pv 4)) (pg_name (i := 6) nd rfl (Or.inl rfl))
    (pss_one (ps_if (pt_not (pt_val (pe_ct c_law_in hr (by decide) (by rfl) (pa_cons (pv 2) (pa_cons (pv 1) (pa_cons (pe_ct c_law_led hr (by decide) (by rfl) (pa_cons (pv 2) (pa_cons (pv 5) (pa_cons (pv 6) pa_nil)))) pa_nil))))))
    (pss_one (ps_ret pe_bl)) pss_nil)))))
  (pss_one (ps_ret pe_bl)))), ?_⟩
    refine s_unpack3 k (ev_var rfl h1) fun H1 x y z s1 hx hy hz => ?_
    have k1 := k.same s1
    have hx : x = .int (q.n : Int) := hx
    have px : ∀ {X H}, oN q.n X H x := fun {_ _} => hx
    have h2a := rsm s1 h2
    refine s_for k1 (ei_list (ev_var rfl h2a)) fun H2 s2 l2 => ?_
    refine ⟨fun i σ1 H3 => (∃ z1 z2, σ1 = [some u1, some u2, some x, some y, some z, z1, z2]) ∧ Same H H3, ⟨⟨none, none, rfl⟩, s1.trans s2⟩, ?_, ?_⟩
    · rintro i r σ1 H3 H4 vr hr l3 ⟨⟨z1, z2, rfl⟩, sa⟩ s4 hvr
      have l4 := l3.same s4
      have lk4 := l2.trans l4
      have hrm := List.mem_of_getElem? hr
      have hrl := hlo.row r hrm
      refine tg1 _ ?_
      refine s_for1 l4.kn (ei_list (ev_var rfl (up lk4 hz))) fun H5 s5 l5 => ?_
      refine ⟨fun j σ2 H6 => (∃ z2, σ2 = [some u1, some u2, some x, some y, some z, some vr, z2]) ∧ Same H H6, ⟨⟨z2, rfl⟩, (sa.trans s4).trans s5⟩, ?_, ?_⟩
      · rintro j A σ2 H6 H7 vA hA l6 ⟨⟨z2, rfl⟩, sb⟩ s7 hvA
        have l7 := l6.same s7
        have lk7 := l5.trans l7
        have hAm := List.mem_of_getElem? hA
        refine tg1 _ ?_
        refine s_if1 l7.kn (et_not (et_B (ev_law_in hlo.toPre (ok.ledn hAm hrl) (ev_var rfl px) (ev_var rfl (up (lk4.trans lk7) h2a)) (ev_law_led (ok.led hAm hrl) (ev_var rfl px) (ev_var rfl (up lk7 hvr)) (ev_var rfl hvA))))) (fun hb H8 s8 => ?_) fun _ H8 s8 => ⟨⟨⟨_, rfl⟩, (sb.trans s7).trans s8⟩, l7.same s8⟩
        exfalso
        unfold stillM at hst
        rw [List.all_eq_true] at hst
        have h3 := hst r hrm
        rw [List.all_eq_true] at h3
        have h4 := h3 A hAm
        rw [h4] at hb
        simp at hb
      · rintro σ2 H6 l6 ⟨⟨z2, rfl⟩, sb⟩
        exact ⟨⟨⟨_, _, rfl⟩, sb⟩, l4.trans (l5.trans l6)⟩
    · rintro σ1 H3 l3 ⟨⟨z1, z2, rfl⟩, sa⟩
      exact s_ret l3.kn ev_c fun H5 v5 s5 o5 => post H5 v5 (sa.trans s5) o5
/-! def _law_is_form: slots 0=_law_p 1=_law_size 2=_law_thing -/
abbrev N_law_is_form : List Str := ["_law_p", "_law_size", "_law_thing"]
theorem sc_law_is_form : FnScope N_law_is_form ["_law_p", "_law_size", "_law_thing"] (defScope (topS 81)) := ⟨rfl, rfl, rfl, by decide +kernel, rfl, by decide +kernel, by decide +kernel⟩
structure IfOk {q : Pm} (n : Nat) (form : List (List (Fq q))) : Prop where
  lo : Lo n form
  ne : form ≠ []
  top : n ≤ 100
def sp_law_is_form : L2.Sp := mkSp (ι := (q : Pm) × Nat × List (List (Fq q))) (fun i X H vs => IfOk i.2.1 i.2.2 ∧ a3 (oN i.1.n) (oN i.2.1) (oRows i.2.2) X H vs) (fun i => oB true)
theorem ev_law_is_form {q : Pm} {n : Nat} {form : List (List (Fq q))} (ok : IfOk n form) (h1 : EvP ta σ X H (oN q.n)) (h2 : EvP tb σ X H (oN n)) (h3 : EvP tc σ X H (oRows form)) : EvP (tCall sp_law_is_form [] E0 (tCons ta (tCons tb (tCons tc tNil)))) σ X H (oB true) :=
  ev_call (⟨q, n, form⟩ : (q : Pm) × Nat × List (List (Fq q))) (EvA.pre ok (ea3 h1 h2 h3))
theorem c_law_is_form (c_law_rows_like : Ct w K mg base 2 "_law_rows_like" sp_law_rows_like) (c_law_form : Ct w K mg base 2 "_law_form" sp_law_form) (T : Tp K mg) : Ct w K mg base 3 "_law_is_form" sp_law_is_form := by
  refine ct_mk T (i := 81) (by decide) sc_law_is_form (fun _ _ _ _ _ _ us hl => match us, hl with | [_, _, _], _ => rfl) (mkSp_len fun i X H vs h => ?_) fun f cdv A outer s H vs Q E hr h => ?_
  · exact a3_len h.2
  · obtain ⟨⟨q, n, form⟩, X, k, ⟨⟨lo, ne, top⟩, u1, u2, u3, rfl, h1, h2, h3⟩, post⟩ := h
    dsimp only at lo ne top h1 h2 h3 post
    have nd := sc_law_is_form.nd
    refine ⟨_, PSs.nox (pss_cons (ps_if (PW.pt (pw_or (pt_not (pt_val (pe_callB (call_isiK2 K) (by rfl) (T.fr "isinstance" (by decide)) (by decide +kernel) (pa_cons (pv 2) (pa_cons (pe_bltn (v := .ty "list") (by rfl) (T.fr "list" (by decide)) (by decide +kernel) rfl) pa_nil))))) (pw_or (pt_cmpR (op_eqDK K hr.units) (pv 2) (pe_lst pa_nil) (nomark _)) (pw_or1 (pt_not (pt_val (pe_ct c_law_rows_like hr (by decide) (by rfl) (pa_cons (pv 0) (pa_cons (pv 1) (pa_cons (pv 2) pa_nil))))))))))
    (pss_one (ps_ret pe_bl)) pss_nil)
  (pss_one (ps_ret (pe_cmpR (op_eqDK K hr.units) (pe_ct c_law_form hr (by decide) (by rfl) (pa_cons (pv 0) (pa_cons (pv 2) pa_nil))) (pv 2) (nomark _))))), ?_⟩
    have fo : FmOk n form := ⟨lo.row, top⟩
    refine s_if k (et_or (et_not (et_B (ev_isiL kib3 (ev_var rfl h3)))) fun _ => et_or (et_test (ev_eqD (R := fun m : List (List (Fq q)) => oRows m) (by decide : (2 : Nat) ≤ 64) (ev_var rfl h3) ((en_nil (R := fun r : List (Fq q) => oRow r)).ev (by simp)))) fun _ => et_not (et_B (ev_law_rows_like fo (ev_var rfl h1) (ev_var rfl h2) (ev_var rfl h3)))) (fun hb => by rw [decide_eq_false ne] at hb; simp at hb) fun _ H1 s1 => ?_
    refine s_ret (k.same s1) (ev_eqD (R := fun m : List (List (Fq q)) => oRows m) (by decide : (2 : Nat) ≤ 64) (ev_law_form fo (ev_var rfl (rsm s1 h1)) (ev_var rfl (rsm s1 h3))) (ev_var rfl (rsm s1 h3))) fun H5 v5 s5 o5 => post H5 v5 (s1.trans s5) ?_
    rw [low_self lo, decide_eq_true rfl] at o5
    exact o5
end
end Still

set_option Elab.async false
set_option linter.all false
set_option maxRecDepth 100000
set_option maxHeartbeats 4000000
namespace Still
open PySem PySem.Spec PyProof.Rows L2
section
variable {w : World} {K : PySem.W.Frag} {mg : Str → Option Value} {base : Heap}
variable {σ : L2.St} {X Y : AX} {H H1 : Hp} {ta tb tc td te tf tg' : TE} {t u : TS} {D : Ends} {l : Addr} {N N' : Nat} {A B O : Ob}
theorem s_extend {α : Type} {R : α → Ob} [∀ x, Rep (R x)] {i : Nat} {l : Addr} {acc : List V} {xs ys : List α} (k : Kn X H) (e : σ[i]? = some (some (.ref l))) (hl : H l = some (.lst acc)) (it : Its R X H acc xs) (hn : xs.length + ys.length ≤ 5000) (h : EvP te σ X H (oL R ys))
    (next : ∀ H1 zs, Same H H1 → Its R X H1 zs ys → D.nx σ (upd H1 l (.lst (acc ++ zs)))) : tDrop (tBM K "list" rExtend (tVar i) (tCons te tNil)) D σ H :=
  ⟨.ref l, e, .inl ⟨rfl, _, .inl (.inl hl)⟩, h X H (Lt.refl k) _ fun H1 v s o => by
    obtain ⟨b, zs, rfl, nb, eb, iz, bd⟩ := o.its
    exact ⟨l, b, acc, zs, rfl, rfl, s _ _ hl, eb, Nat.le_of_lt (line5 (by rw [it.1, iz.1]; exact hn)), next H1 zs s iz⟩⟩
theorem ev_elN {q : Pm} {j : Nat} (hj : j < q.n) (h : EvP ta σ X H (oN j)) : EvP ta σ X H (oF (el q (j : Int))) := h.eq (by
  show oI _ = oI _
  rw [vl_el, Int.emod_eq_of_lt (by omega) (by omega)])
theorem ext_take {q : Pm} {s : List (List (Fq q))} {m : Nat} {r : List (Fq q)} (h : s[m]? = some r) : extM q (s.take (m + 1)) = extM q (s.take m) ++ (List.range q.n).map fun j : Nat => r ++ [el q (j : Int)] := take_flat h
/-! def _law_lines: slots 0=_law_p 1=_law_size 2=_law_found 3=_law_ahead 4=_law_some 5=_law_k 6=_law_longer 7=_law_row 8=_law_rest -/
abbrev N_law_lines : List Str := ["_law_p", "_law_size", "_law_found", "_law_ahead", "_law_some", "_law_k", "_law_longer", "_law_row", "_law_rest"]
theorem sc_law_lines : FnScope N_law_lines ["_law_p", "_law_size"] (defScope (topS 75)) := ⟨rfl, rfl, rfl, by decide +kernel, rfl, by decide +kernel, by decide +kernel⟩
structure LnOk (q : Pm) (n : Nat) : Prop where
  pos : 0 < n
  top : n ≤ 36
  bd : q.n ^ n ≤ 5000
def sp_law_lines : L2.Sp := mkSp (ι := Pm × Nat) (fun i X H vs => LnOk i.1 i.2 ∧ a2 (oN i.1.n) (oN i.2) X H vs) (fun i => oRows (linesM i.1 i.2))
theorem ev_law_lines {q : Pm} {n : Nat} (ok : LnOk q n) (h1 : EvP ta σ X H (oN q.n)) (h2 : EvP tb σ X H (oN n)) : EvP (tCall sp_law_lines [] E0 (tCons ta (tCons tb tNil))) σ X H (oRows (linesM q n)) :=
  ev_call ((q, n) : Pm × Nat) (EvA.pre ok (ea2 h1 h2))
theorem c_law_lines (T : Tp K mg) : Ct w K mg base 1 "_law_lines" sp_law_lines := by
  refine ct_mk T (i := 75) (by decide) sc_law_lines (fun _ _ _ _ _ _ us hl => match us, hl with | [_, _], _ => rfl) (mkSp_len fun i X H vs h => ?_) fun f cdv A outer s H vs Q E hr h => ?_
  · exact a2_len h.2
  · obtain ⟨⟨q, n⟩, X, k, ⟨⟨pos, top, bd⟩, u1, u2, rfl, h1, h2⟩, post⟩ := h
    dsimp only at pos top bd h1 h2 post
    have nd := sc_law_lines.nd
    refine ⟨_, PSs.nox (pss_cons (ps_set (i := 2) nd rfl (.inl rfl) (pe_lst pa_nil))
  (pss_cons (ps_for PassesOwn.never rfl (pi_range1 (by rfl) (T.fr "range" (by decide)) (pa_cons (pv 1) pa_nil)) (pg_name (i := 3) nd rfl (Or.inl rfl))
    (pss_cons (ps_set (i := 4) nd rfl (.inl rfl) (pe_lst (pa_cons (pe_op op_cat (pe_op op_rep (pe_lst (pa_cons pe_int pa_nil)) (pv 3)) (pe_lst (pa_cons pe_int pa_nil))) pa_nil)))
  (pss_cons (ps_for PassesOwn.never rfl (pi_range1 (by rfl) (T.fr "range" (by decide)) (pa_cons (pe_op op_sub (pe_op op_sub (pv 1) (pv 3)) pe_int) pa_nil)) (pg_name (i := 5) nd rfl (Or.inl rfl))
    (pss_cons (ps_set (i := 6) nd rfl (.inl rfl) (pe_lst pa_nil))
  (pss_cons (ps_for PassesOwn.never rfl (pi_listK K (pv 4)) (pg_name (i := 7) nd rfl (Or.inr rfl))
    (pss_one (ps_expr (pe_bm PySem.F.plainAttrs_list PySem.F.slot_list_extend PySem.F.type_list_extend mt_extend (pv 6) (pa_cons (pe_lc (own := [("_law_rest", 8)]) (g := gName 8) (tt := tYes) rfl nd (pi_range1 (by rfl) (T.fr "range" (by decide)) (pa_cons (pv 0) pa_nil)) (blkOk_by (N := N_law_lines) (sc := (defScope (topS 75))) (by decide +kernel)) (fun _ _ _ _ _ => pg_name (i := 8) nd rfl (Or.inl rfl)) (fun _ _ _ _ _ => pts_nil) (fun _ _ _ _ _ => pe_op op_cat (pv 7) (pe_lst (pa_cons (pv 8) pa_nil)))) pa_nil)))))
  (pss_one (ps_set (i := 4) nd rfl (.inl rfl) (pv 6))))))
  (pss_one (ps_expr (pe_bm PySem.F.plainAttrs_list PySem.F.slot_list_extend PySem.F.type_list_extend mt_extend (pv 2) (pa_cons (pv 4) pa_nil)))))))
  (pss_one (ps_ret (pv 2))))), ?_⟩
    have hu : u1 = .int (q.n : Int) := h1
    have hv : u2 = .int (n : Int) := h2
    subst hu hv
    have hq := q.pos
    have pn : ∀ {X : AX} {H : Hp} {v : V} {n : Nat}, v = .int (n : Int) → oN n X H v := fun e => e
    refine s_new k (en_nil (R := fun r : List (Fq q) => oRow r)) fun H1 f1 vs s1 nf ef it1 l1 => ?_
    have hv0 : vs = [] := List.length_eq_zero_iff.mp it1.1
    subst hv0
    refine s_for l1.kn (ei_range (ev_var rfl (pn (n := n) rfl)) (by omega)) fun H2 s2 l2 => ?_
    refine ⟨fun i σ1 H3 => (∃ z3 z4 z5 z6 z7, σ1 = [some (.int (q.n : Int)), some (.int (n : Int)), some (.ref f1), z3, z4, z5, z6, z7, none]) ∧ (∃ acc, H3 f1 = some (.lst acc) ∧ Its (fun r : List (Fq q) => oRow r) (hid X f1) H3 acc (((List.range n).take i).flatMap (lineM q n))) ∧ Same H H3, ⟨⟨none, none, none, none, none, rfl⟩, ⟨[], s2 _ _ ef, by rw [List.take_zero]; exact Its.nil⟩, s1.trans s2⟩, ?_, ?_⟩
    · rintro i x σ1 H3 H4 vx hx l3 ⟨⟨z3, z4, z5, z6, z7, rfl⟩, ⟨acc, ea, ia⟩, sa⟩ s4 hvx
      have l4 := l3.same s4
      obtain ⟨hi1, hi2⟩ := List.getElem?_eq_some_iff.mp hx
      rw [List.getElem_range] at hi2
      rw [List.length_range] at hi1
      subst hi2
      have evx : vx = .int (i : Int) := hvx
      subst evx
      refine tg1 _ ?_
      have k4 := l4.kn
      refine s_set k4 ((en_one (R := fun r : List (Fq q) => oRow r) (x := List.replicate i 0 ++ [1]) ((en_cat (R := fun a : Fq q => oF a) ((en_rep (R := fun a : Fq q => oF a) (x := 0) ((en_one (R := fun a : Fq q => oF a) (ev_int.eq vl_0)).ev (by simp)) (ev_var rfl (pn (n := i) rfl)) (by omega)).ev (by rw [List.length_replicate]; omega)) ((en_one (R := fun a : Fq q => oF a) (x := 1) (ev_int.eq (show oI 1 = oI _ by rw [vl_one]))).ev (by simp))).ev (by rw [List.length_append, List.length_replicate, List.length_singleton]; omega))).ev (by simp)) fun H5 v5 s5 o5 => ?_
      have k5 := k4.same s5
      have eF5 := s5 _ _ (s4 _ _ ea)
      have iF5 := (ia.sm s4).sm s5
      have sb5 := (sa.trans s4).trans s5
      have hpow : ∀ j, j ≤ n → q.n ^ j ≤ 5000 := fun j hj => Nat.le_trans (Nat.pow_le_pow_right (by omega) hj) bd
      have l25 := l4.same s5
      refine s_for k5 (ei_range (n := n - i - 1) ((ev_subI (ev_subI (ev_var rfl (pn (n := n) rfl)) (ev_var rfl (pn (n := i) rfl))) ev_int).eq (show _ = oN (n - i - 1) by show oI _ = oI _; congr 1; omega)) (by omega)) fun H6 s6 l6 => ?_
      refine ⟨fun j σ2 H7 => (∃ v4 z5 z6 z7, σ2 = [some (.int (q.n : Int)), some (.int (n : Int)), some (.ref f1), some (.int (i : Int)), some v4, z5, z6, z7, none] ∧ oRows (extN q j [List.replicate i 0 ++ [1]]) (hid X f1) H7 v4) ∧ H7 f1 = some (.lst acc) ∧ Same H H7, ⟨⟨v5, z5, z6, z7, rfl, rsm s6 o5⟩, s6 _ _ eF5, sb5.trans s6⟩, ?_, ?_⟩
      · rintro j y σ2 H7 H8 vy hy l7 ⟨⟨v4, z5, z6, z7, rfl, o4⟩, eF7, s7⟩ s8 hvy
        have l8 := l7.same s8
        have hj1 := (List.getElem?_eq_some_iff.mp hy).1
        rw [List.length_range] at hj1
        refine tg1 _ ?_
        have k8 := l8.kn
        have hsl : (extN q j [List.replicate i 0 ++ [1]]).length = q.n ^ j := by rw [extN_len]; simp
        generalize hs : extN q j [List.replicate i 0 ++ [1]] = s at o4 hsl
        have hrl : ∀ r, r ∈ s → r.length ≤ 4999 := fun r hr => by
          rw [← hs, mem_extN] at hr
          obtain ⟨row, h1, t, h2, rfl⟩ := hr
          rw [List.mem_singleton] at h1
          rw [h1, List.length_append, List.length_append, List.length_replicate, List.length_singleton, h2]
          omega
        refine s_new k8 (en_nil (R := fun r : List (Fq q) => oRow r)) fun H9 g vs9 s9 ng eg it9 l9 => ?_
        have hv9 : vs9 = [] := List.length_eq_zero_iff.mp it9.1
        subst hv9
        have eF8 := s8 _ _ eF7
        have fg : f1 ≠ g := ne_of_none eF8 ng
        have sH8 := s7.trans s8
        have ng0 : H g = none := sH8.free ng
        refine s_for l9.kn (ei_list (ev_var rfl (up l9 (rsm s8 o4)))) fun H10 s10 l10 => ?_
        refine ⟨fun m σ3 H11 => (∃ z7, σ3 = [some (.int (q.n : Int)), some (.int (n : Int)), some (.ref f1), some (.int (i : Int)), some v4, some vy, some (.ref g), z7, none]) ∧ (∃ acc2, H11 g = some (.lst acc2) ∧ Its (fun r : List (Fq q) => oRow r) (hid (hid X f1) g) H11 acc2 (extM q (s.take m))) ∧ H11 f1 = some (.lst acc) ∧ Same H H11, ⟨⟨z7, rfl⟩, ⟨[], s10 _ _ eg, by rw [List.take_zero]; exact Its.nil⟩, s10 _ _ (s9 _ _ eF8), (sH8.trans s9).trans s10⟩, ?_, ?_⟩
        · rintro m r σ3 H11 H12 vr hr l11 ⟨⟨z7, rfl⟩, ⟨acc2, eg2, ig2⟩, eF11, s11⟩ s12 hvr
          have l12 := l11.same s12
          have hrb := hrl r (List.mem_of_getElem? hr)
          have hml := (List.getElem?_eq_some_iff.mp hr).1
          refine tg1 _ ?_
          have hlen : (extM q (s.take m)).length + ((List.range q.n).map fun j : Nat => r ++ [el q (j : Int)]).length ≤ 5000 := by
            have e := ext_take (q := q) hr
            have e2 := congrArg List.length e
            rw [List.length_append] at e2
            rw [← e2, ext_len, List.length_take, hsl]
            have : min (m + 1) (q.n ^ j) * q.n ≤ q.n ^ (j + 1) := by rw [Nat.pow_succ]; exact Nat.mul_le_mul (by omega) (Nat.le_refl _)
            exact Nat.le_trans this (hpow (j + 1) (by omega))
          refine s_extend l12.kn rfl (s12 _ _ eg2) (ig2.sm s12) hlen ((en_map (R := fun j : Nat => oN j) (R' := fun r : List (Fq q) => oRow r) (fun j : Nat => r ++ [el q (j : Int)]) (ei_range (ev_var rfl (pn (n := q.n) rfl)) (by omega)) (by rw [List.length_range]; omega) fun j hj Y H13 v13 l13 rv => ⟨_, tg1, rfl, (en_cat (R := fun a : Fq q => oF a) (ev_var rfl (up l13 hvr)) ((en_one (R := fun a : Fq q => oF a) (ev_elN (List.mem_range.mp hj) (ev_var rfl rv))).ev (by simp))).ev (by rw [List.length_append, List.length_singleton]; omega)⟩).ev (by rw [List.length_map, List.length_range]; omega)) fun H13 zs s13 iz => ?_
          have lw : Lt (hid (hid X f1) g) H13 (hid (hid X f1) g) (upd H13 g (.lst (acc2 ++ zs))) := (Lt.refl (l12.kn.same s13)).write (.inr rfl)
          refine ⟨⟨⟨_, rfl⟩, ⟨_, upd_same, ?_⟩, ?_, same_write ((s11.trans s12).trans s13) ng0⟩, (l12.same s13).trans lw⟩
          · rw [ext_take hr]
            exact (((ig2.sm s12).sm s13).append iz).up lw
          · rw [upd_ne fg]
            exact s13 _ _ (s12 _ _ eF11)
        · rintro σ3 H11 l11 ⟨⟨z7, rfl⟩, ⟨acc2, eg2, ig2⟩, eF11, s11⟩
          rw [take_all] at ig2
          have k11 : Kn (hid X f1) H11 := kn_wk l11.kn hid_wk
          have hb : (extM q s).length ≤ 5000 := by rw [ext_len, hsl, ← Nat.pow_succ]; exact hpow (j + 1) (by omega)
          have og : oRows (extM q s) (hid X f1) H11 (.ref g) := oL.mk (notKn k8 ng) eg2 (ig2.dn hid_wk) hb
          have l911 := l10.trans l11
          have lx : Lt (hid X f1) H6 (hid (hid X f1) g) H11 := (l8.trans l9).trans l911
          have lx2 : Lt (hid X f1) H6 (hid X f1) H11 := ⟨fun a o na e => ⟨na, (lx.go a o na e).2⟩, k11, fun _ h => h⟩
          refine s_set1 k11 (ev_var rfl og) fun H12 v12 s12 o12 => ⟨⟨⟨v12, _, _, _, rfl, ?_⟩, s12 _ _ eF11, s11.trans s12⟩, lx2.same s12⟩
          show oRows (extM q (extN q j _)) _ _ _
          rw [hs]
          exact o12
      · rintro σ2 H7 l7 ⟨⟨v4, z5, z6, z7, rfl, o4⟩, eF7, s7⟩
        rw [List.length_range] at o4
        have l67 := l6.trans l7
        have iF7 := iF5.up l67
        have ht : ((List.range n).take i).flatMap (lineM q n) = (List.range i).flatMap (lineM q n) := by rw [List.take_range, Nat.min_eq_left (by omega)]
        have hb : (((List.range n).take i).flatMap (lineM q n)).length + (extN q (n - i - 1) [List.replicate i 0 ++ [1]]).length ≤ 5000 := by
          have := lines_len (q := q) n (i + 1) (by omega)
          rw [List.range_succ, List.flatMap_append, List.length_append] at this
          rw [ht]
          have e : (List.flatMap (lineM q n) [i]).length = (extN q (n - i - 1) [List.replicate i 0 ++ [1]]).length := by
            rw [List.flatMap_singleton]; rfl
          omega
        refine s_extend l7.kn rfl eF7 iF7 hb (ev_var rfl o4) fun H8 zs s8 iz => ?_
        have lw : Lt (hid X f1) H8 (hid X f1) (upd H8 f1 (.lst (acc ++ zs))) := (Lt.refl (l7.kn.same s8)).write (.inr rfl)
        refine ⟨⟨⟨_, _, _, _, _, rfl⟩, ⟨_, upd_same, ?_⟩, same_write (s7.trans s8) nf⟩, (l25.trans (l67.same s8)).trans lw⟩
        rw [take_flat hx]
        exact ((iF7.sm s8).append iz).up lw
    · rintro σ1 H3 l3 ⟨⟨z3, z4, z5, z6, z7, rfl⟩, ⟨acc, ea, ia⟩, sa⟩
      rw [take_all] at ia
      have hb := lines_len (q := q) n n (Nat.le_refl _)
      have or : oRows (linesM q n) X H3 (.ref f1) := oL.mk (notKn k nf) ea (ia.dn hid_wk) (Nat.le_trans hb bd)
      exact s_ret (kn_wk l3.kn hid_wk) (ev_var rfl or) fun H5 v5 s5 o5 => post H5 v5 (sa.trans s5) o5
/-! def _law_is_tight: slots 0=_law_p 1=_law_size 2=_law_tables 3=_law_row -/
abbrev N_law_is_tight : List Str := ["_law_p", "_law_size", "_law_tables", "_law_row"]
theorem sc_law_is_tight : FnScope N_law_is_tight ["_law_p", "_law_size", "_law_tables"] (defScope (topS 76)) := ⟨rfl, rfl, rfl, by decide +kernel, rfl, by decide +kernel, by decide +kernel⟩
structure TiOk {q : Pm} (n : Nat) (tabs : List (List (List (Fq q)))) : Prop where
  cr : CrB n tabs
  ti : Tight n tabs
def sp_law_is_tight : L2.Sp := mkSp (ι := (q : Pm) × Nat × List (List (List (Fq q)))) (fun i X H vs => TiOk i.2.1 i.2.2 ∧ a3 (oN i.1.n) (oN i.2.1) (oTabs i.2.2) X H vs) (fun i => oB true)
theorem ev_law_is_tight {q : Pm} {n : Nat} {tabs : List (List (List (Fq q)))} (ok : TiOk n tabs) (h1 : EvP ta σ X H (oN q.n)) (h2 : EvP tb σ X H (oN n)) (h3 : EvP tc σ X H (oTabs tabs)) : EvP (tCall sp_law_is_tight [] E0 (tCons ta (tCons tb (tCons tc tNil)))) σ X H (oB true) :=
  ev_call (⟨q, n, tabs⟩ : (q : Pm) × Nat × List (List (List (Fq q)))) (EvA.pre ok (ea3 h1 h2 h3))
theorem c_law_is_tight (c_law_lines : Ct w K mg base 3 "_law_lines" sp_law_lines) (c_law_spin : Ct w K mg base 3 "_law_spin" sp_law_spin) (T : Tp K mg) : Ct w K mg base 4 "_law_is_tight" sp_law_is_tight := by
  refine ct_mk T (i := 76) (by decide) sc_law_is_tight (fun _ _ _ _ _ _ us hl => match us, hl with | [_, _, _], _ => rfl) (mkSp_len fun i X H vs h => ?_) fun f cdv A outer s H vs Q E hr h => ?_
  · exact a3_len h.2
  · obtain ⟨⟨q, n, tabs⟩, X, k, ⟨⟨ok, ti⟩, u1, u2, u3, rfl, h1, h2, h3⟩, post⟩ := h
    dsimp only at ok ti h1 h2 h3 post
    have nd := sc_law_is_tight.nd
    refine ⟨_, PSs.nox (pss_cons (ps_for PassesOwn.never rfl (pi_listK K (pe_ct c_law_lines hr (by decide) (by rfl) (pa_cons (pv 0) (pa_cons (pv 1) pa_nil)))) (pg_name (i := 3) nd rfl (Or.inl rfl))
    (pss_one (ps_if (pt_cmpR op_lt (pe_callB (call_lenK K) (by rfl) (T.fr "len" (by decide)) PySem.boot_len (pa_cons (pe_ct c_law_spin hr (by decide) (by rfl) (pa_cons (pv 0) (pa_cons (pv 1) (pa_cons (pv 2) (pa_cons (pe_lst (pa_cons (pv 3) pa_nil)) pa_nil))))) pa_nil)) (pv 1) (nomark _))
    (pss_one (ps_ret pe_bl)) pss_nil)))
  (pss_one (ps_ret pe_bl))), ?_⟩
    have fr := lines_fr (q := q) n
    refine s_for k (ei_list (ev_law_lines ⟨ok.pos, ok.top, ok.bd⟩ (ev_var rfl h1) (ev_var rfl h2))) fun H2 s2 l2 => ?_
    refine ⟨fun i σ1 H3 => (∃ z, σ1 = [some u1, some u2, some u3, z]) ∧ Same H H3, ⟨⟨none, rfl⟩, s2⟩, ?_, ?_⟩
    · rintro i o σ1 H3 H4 vo ho l3 ⟨⟨z, rfl⟩, sa⟩ s4 hvo
      have l4 := l3.same s4
      have sa4 := sa.trans s4
      have hom := List.mem_of_getElem? ho
      refine tg1 _ ?_
      refine s_if1 (b := false) l4.kn ?_ (fun hb => by cases hb) fun _ H6 s6 => ⟨⟨⟨_, rfl⟩, sa4.trans s6⟩, l4.same s6⟩
      refine et_test (ev_ex (O := oB false) (C := fun t => tOp _ (tCB (rLenK K) (tCons t tNil)) (tVar 1)) (fun _ _ _ _ => rfl) (ev_law_spin ⟨ok.toCrOk, fun r hr => by rw [List.mem_singleton] at hr; rw [hr]; exact fr.len o hom⟩ (ev_var rfl (rsm sa4 h1)) (ev_var rfl (rsm sa4 h2)) (ev_var rfl (rsm sa4 h3)) ((en_one (R := fun r : List (Fq q) => oRow r) (ev_var rfl hvo)).ev (by simp))) fun form hf Y H5 t2 l5 e2 => ?_)
      refine (ev_I0 (ev_len e2) (ev_var rfl (up l5 (rsm sa4 h2)))).eq ?_
      have := tight_spun ti (fr.len o hom) hf (fr.nz o hom)
      show oV (V.bl _) = oV (V.bl _)
      rw [decide_eq_false (by omega)]
    · rintro σ1 H3 l3 ⟨⟨z, rfl⟩, sa⟩
      exact s_ret l3.kn ev_c fun H5 v5 s5 o5 => post H5 v5 (sa.trans s5) o5
end
end Still

set_option Elab.async false
set_option linter.all false
set_option maxRecDepth 100000
set_option maxHeartbeats 4000000
namespace Still
open PySem PySem.Spec PyProof.Rows L2
section
variable {X : Cx} {T id name : String} {r : V → List V → Hp → VK → Prop} {o e : Expr} {es : List Expr} {to : TE} {t : TA} {apos cpos : Pos}
theorem pe_bmK (K : PySem.W.Frag) {nm : Str} (pa : PlainAttrs T) (slot : Slot T nm id) (hty : typeOf (.builtin id) = pure (.type "method_descriptor")) (hm : MtR X id r) (ho : PE X o to) (ha : PA X (e :: es) t) (h : X.K = K := by rfl)
    (hbase : attributeBase o nm X.env (eval o X.env) = eval o X.env := by rfl)
    (hfew : ((backTo cpos (starEach (e :: es) X.env)).all (fun x => !x.1) && (backToKw cpos (keywordEach [] X.env)).all (fun x => x.1.isSome)
      && decide ((e :: es).length + ([] : List Keyword).length + (if ([] : List Keyword).isEmpty then 0 else 1) < 30)) = true := by rfl)
    (hline : (apos.endLine == cpos.line) = true := by rfl) (hs : starEach (e :: es) X.env = (false, eval e X.env) :: starEach es X.env := by rfl) (hplain : (backTo cpos (starEach es X.env)).any (·.1) = false := by rfl) :
    PE X (.Call (.Attribute o nm apos) (e :: es) [] cpos) (tBM K T r to t) := h ▸ pe_bm pa slot hty hm ho ha hbase hfew hline hs hplain
end
section
variable {w : World} {K : PySem.W.Frag} {mg : Str → Option Value} {base : Heap}
variable {σ : L2.St} {X Y : AX} {H H1 : Hp} {ta tb tc td te tf tg' : TE} {t u : TS} {D : Ends} {l : Addr} {N N' : Nat} {A B O : Ob}
/-! def _law_across: slots 0=_law_p 1=_law_length 2=_law_form_here 3=_law_row 4=_law_leads 5=_law_found 6=_law_place 7=_law_at 8=_law_other 9=_law_k -/
abbrev N_law_across : List Str := ["_law_p", "_law_length", "_law_form_here", "_law_row", "_law_leads", "_law_found", "_law_place", "_law_at", "_law_other", "_law_k"]
theorem sc_law_across : FnScope N_law_across ["_law_p", "_law_length", "_law_form_here"] (defScope (topS 83)) := ⟨rfl, rfl, rfl, by decide +kernel, rfl, by decide +kernel, by decide +kernel⟩
structure LaOk {q : Pm} (n : Nat) (form : List (List (Fq q))) : Prop where
  pre : Pre n form
  top : n ≤ 100
def sp_law_across : L2.Sp := mkSp (ι := (q : Pm) × Nat × List (List (Fq q))) (fun i X H vs => LaOk i.2.1 i.2.2 ∧ a3 (oN i.1.n) (oN i.2.1) (oRows i.2.2) X H vs) (fun i => oRows (acrM i.2.1 i.2.2))
theorem ev_law_across {q : Pm} {n : Nat} {form : List (List (Fq q))} (hp : LaOk n form) (h1 : EvP ta σ X H (oN q.n)) (h2 : EvP tb σ X H (oN n)) (h3 : EvP tc σ X H (oRows form)) : EvP (tCall sp_law_across [] E0 (tCons ta (tCons tb (tCons tc tNil)))) σ X H (oRows (acrM n form)) :=
  ev_call (⟨q, n, form⟩ : (q : Pm) × Nat × List (List (Fq q))) (EvA.pre hp (ea3 h1 h2 h3))
theorem c_law_across (c_law_form : Ct w K mg base 2 "_law_form" sp_law_form) (T : Tp K mg) : Ct w K mg base 3 "_law_across" sp_law_across := by
  refine ct_mk T (i := 83) (by decide) sc_law_across (fun _ _ _ _ _ _ us hl => match us, hl with | [_, _, _], _ => rfl) (mkSp_len fun i X H vs h => ?_) fun f cdv A outer s H vs Q E hr h => ?_
  · exact a3_len h.2
  · obtain ⟨⟨q, n, form⟩, X, k, ⟨⟨hp, hn100⟩, u1, u2, u3, rfl, h1, h2, h3⟩, post⟩ := h
    dsimp only at hp hn100 h1 h2 h3 post
    have hn : n ≤ 5000 := by omega
    have nd := sc_law_across.nd
    refine ⟨_, PSs.nox (pss_cons (ps_setLc (i := 4) (own := [("_law_row", 3)]) (g := gName 3) (tt := tYes) rfl nd rfl rfl (sw_true rfl rfl rfl (by decide +kernel)) (pi_listK K (pv 2)) (blkOk_by (N := N_law_across) (sc := (defScope (topS 83))) (by decide +kernel)) (fun _ _ _ _ _ => pg_name (i := 3) nd rfl (Or.inl rfl)) (fun _ _ _ _ _ => pts_nil) (fun _ _ _ _ _ => pe_bmK K PySem.F.plainAttrs_list PySem.F.slot_list_index PySem.F.type_list_index (mt_indexK K) (pv 3) (pa_cons pe_int pa_nil)))
  (pss_cons (ps_set (i := 5) nd rfl (.inl rfl) (pe_lst pa_nil))
  (pss_cons (ps_for PassesOwn.never rfl (pi_range1 (by rfl) (T.fr "range" (by decide)) (pa_cons (pv 1) pa_nil)) (pg_name (i := 6) nd rfl (Or.inr rfl))
    (pss_one (ps_if (pt_cmpR (op_notInK K) (pv 6) (pv 4) (by rfl))
    (pss_cons (ps_setLc (i := 3) (own := [("_law_k", 9)]) (g := gName 9) (tt := tYes) rfl nd rfl rfl (sw_true rfl rfl rfl (by decide +kernel)) (pi_range1 (by rfl) (T.fr "range" (by decide)) (pa_cons (pv 1) pa_nil)) (blkOk_by (N := N_law_across) (sc := (defScope (topS 83))) (by decide +kernel)) (fun _ _ _ _ _ => pg_name (i := 9) nd rfl (Or.inl rfl)) (fun _ _ _ _ _ => pts_nil) (fun _ _ _ _ _ => pe_callTy call_int1 (by rfl) (T.fr "int" (by decide)) boot_int (pa_cons (pe_cmpR op_eq (pv 9) (pv 6) (nomark _)) pa_nil)))
  (pss_cons (ps_for PassesOwn.never rfl (pi_zipK K (by rfl) (T.fr "zip" (by decide)) (pa_cons (pv 4) (pa_cons (pv 2) pa_nil))) (pg_tup (by rfl) (pgs_cons (pg_name (i := 7) nd rfl (Or.inl rfl)) (pgs_cons (pg_name (i := 8) nd rfl (Or.inl rfl)) pgs_nil)))
    (pss_one (ps_asg (pe_op op_modN (pe_op op_sub pe_int (pe_ix (ix_listK K) (pv 8) (pv 6) (fun _ _ => rfl))) (pv 0)) (pg_sub (pv 3) (pv 7) set_list))))
  (pss_one (ps_expr (pe_bm PySem.F.plainAttrs_list PySem.F.slot_list_append PySem.F.type_list_append mt_append (pv 5) (pa_cons (pv 3) pa_nil)))))) pss_nil)))
  (pss_one (ps_ret (pe_ct c_law_form hr (by decide) (by rfl) (pa_cons (pv 0) (pa_cons (pv 5) pa_nil)))))))), ?_⟩
    have hlt : ∀ r, r ∈ form → ld r < n := fun r hr => hp.lt Fd.ne hr
    refine s_set k ((en_map (R' := fun j : Nat => oN j) ld (ei_list (ev_var rfl h3)) (oL_len h3) fun r hr Y H5 v5 l5 rv => ⟨_, tg1, rfl, ev_index (hp.hd r hr) (hp.one r hr) (ev_var rfl rv) ev_int⟩).ev (by rw [List.length_map]; exact oL_len h3)) fun H1 v1 s1 o1 => ?_
    have k1 := k.same s1
    refine s_new k1 (en_nil (R := fun r : List (Fq q) => oRow r)) fun H2 l vs s2 nl el it2 l2 => ?_
    have k2 := l2.kn
    have hv0 : vs = [] := List.length_eq_zero_iff.mp it2.1
    subst hv0
    have L2 : Lt X H (hid X l) H2 := (Lt.of k s1).trans l2
    have hl0 : H l = none := s1.free nl
    refine s_for k2 (ei_range (ev_var rfl (up L2 h2)) (by omega)) fun H3 s3 l3 => ?_
    refine ⟨fun i σ1 H4 => (∃ y3 y6 y7 y8 acc, σ1 = [some u1, some u2, some u3, y3, some v1, some (.ref l), y6, y7, y8, none] ∧ H4 l = some (.lst acc) ∧ Its (fun r : List (Fq q) => oRow r) (hid X l) H4 acc ((((List.range n).take i).filter fun x => decide (x ∉ form.map ld)).map (arowM n form))) ∧ Same H H4,
      ⟨⟨none, none, none, none, [], rfl, s3 _ _ el, by rw [List.take_zero]; exact Its.nil⟩, (s1.trans s2).trans s3⟩, ?_, ?_⟩
    · rintro i x σ1 H4 H5 vx hx l4 ⟨⟨y3, y6, y7, y8, acc, rfl, ea, ia⟩, sa⟩ s5 hvx
      have l5 := l4.same s5
      have k5 := l5.kn
      have LX : Lt X H (hid X l) H5 := L2.trans (l3.trans l5)
      have o15 : oL (fun j : Nat => oN j) (form.map ld) (hid X l) H5 v1 := up (l2.trans (l3.trans l5)) o1
      obtain ⟨hx1, hx2⟩ := List.getElem?_eq_some_iff.mp hx
      rw [List.getElem_range] at hx2
      rw [List.length_range] at hx1
      have hxn : x < n := by omega
      have ia5 := ia.sm s5
      have ea5 := s5 _ _ ea
      refine tg1 _ ?_
      refine s_if1 k5 (et_test (ev_notIn (ev_var rfl hvx) (ev_var rfl o15))) (fun hb H6 s6 => ?_) fun hb H6 s6 => ?_
      · have k6 := k5.same s6
        have L6 := LX.same s6
        refine s_new k6 (en_map (R := fun j : Nat => oN j) (R' := fun a : Fq q => oF a) (fun j => if j = x then 1 else 0) (ei_range (n := n) (ev_var rfl (up L6 h2)) (by omega)) (by rw [List.length_range]; exact hn) fun j hj Y2 H7 v7 l7 rv7 => ⟨_, tg1, rfl, ?_⟩) fun H7 l7 vs7 s7 n7 e7 it7 lt7 => ?_
        · refine (ev_intB (ev_eq (ev_var rfl rv7) (ev_var rfl (up l7 (rsm s6 hvx))) rfl)).eq ?_
          rw [dec_nat, bit_of (q := q)]
          congr 1
          simp
        · have e0 : vs7 = (uM (F := Fq q) n x).map fun a : Fq q => V.int (vl a) := it7.flat (f := fun a : Fq q => V.int (vl a))
          have k7 := lt7.kn
          have L7 : Lt X H (hid (hid X l) l7) H7 := L6.trans lt7
          have o17 := up lt7 (rsm s6 o15)
          have o37 := up L7 h3
          have hx7 := up lt7 (rsm s6 hvx)
          have h17 := up L7 h1
          have ha7 : H7 l = some (.lst acc) := s7 _ _ (s6 _ _ ea5)
          have ne7 : l ≠ l7 := ne_of_none (s6 _ _ ea5) n7
          refine s_for k7 (ei_zip (ev_var rfl o17) (ev_var rfl o37) (by rw [List.length_map])) fun H8 s8 l8 => ?_
          refine ⟨fun j σ2 H9 => (∃ y7 y8, σ2 = [some u1, some u2, some u3, some (.ref l7), some v1, some (.ref l), some vx, y7, y8, none] ∧ H9 l7 = some (.lst ((setM x (((form.map ld).zip form).take j) (uM n x)).map fun a : Fq q => V.int (vl a))) ∧ H9 l = some (.lst acc)) ∧ Same H6 H9,
            ⟨⟨y7, y8, rfl, by rw [List.take_zero]; rw [s8 _ _ e7, e0]; rfl, s8 _ _ ha7⟩, s7.trans s8⟩, ?_, ?_⟩
          · rintro j pr σ2 H9 H10 vp hpr l9 ⟨⟨y7, y8, rfl, eb, ec⟩, sb⟩ s10 hvp
            have l10 := l9.same s10
            obtain ⟨a, b, hva, hvb, tg⟩ := tg2 (K := K) (i := 7) (j := 8) (σ := [some u1, some u2, some u3, some (.ref l7), some v1, some (.ref l), some vx, y7, y8, none]) hvp
            have hpr2 := hpr
            rw [List.getElem?_zip_eq_some] at hpr2
            have hm := List.mem_of_getElem? hpr2.2
            have hrow := hp.row _ hm
            have hld : pr.1 = ld pr.2 := by
              have := hpr2.1
              rw [List.getElem?_map, hpr2.2] at this
              exact (Option.some.inj this).symm
            refine tg _ ?_
            have lk := l8.trans l10
            refine s_put (j := pr.1) (O := oF (0 - vc pr.2 x)) l10.kn rfl (s10 _ _ eb) ?_ (ev_modF (i := 0 - vl (vc pr.2 x)) (ev_I0 ev_int (ev_ix (R := fun a : Fq q => oF a) (i := x) (ev_var rfl hvb) (ev_var rfl (up lk hx7)) (vc_get (by rw [hrow]; exact hxn)))) (ev_var rfl (up lk h17)) ?_) (ev_var rfl hva) fun H11 v11 s11 o11 => ?_
            · rw [List.length_map, setM_len, u_len, hld]
              exact hlt _ hm
            · rw [vl_sub, vl_zero]
            · have e11 : v11 = .int (vl (0 - vc pr.2 x)) := o11
              subst e11
              refine ⟨⟨⟨_, _, rfl, ?_, ?_⟩, same_write ((sb.trans s10).trans s11) n7⟩, (l10.same s11).write (.inr rfl)⟩
              · rw [upd_same, cell_set]
                unfold setM
                rw [take_fold _ _ hpr]
              · rw [upd_ne ne7]
                exact s11 _ _ (s10 _ _ ec)
          · rintro σ2 H9 l9 ⟨⟨y7, y8, rfl, eb, ec⟩, sb⟩
            rw [take_all, setM_arow] at eb
            have k9 : Kn (hid X l) H9 := kn_wk l9.kn hid_wk
            have hnl7 : ¬ hid X l l7 := notKn k6 n7
            have alen : (arowM n form x).length = n := by rw [← setM_arow, setM_len, u_len]
            have or : oRow (arowM n form x) (hid X l) H9 (.ref l7) := oL.mk hnl7 eb Its.of_flat (by rw [alen]; exact hn)
            have hfl : (((List.range n).take i).filter fun x => decide (x ∉ form.map ld)).length < n := by
              have := filt_lt (f := fun x : Nat => x) (p := fun x => decide (x ∉ form.map ld)) (xs := List.range n) (i := i) (by rw [List.length_range]; exact hx1)
              rw [List.length_map, List.length_range] at this
              exact this
            refine s_append k9 rfl ec (by rw [ia.1, List.length_map]; omega) (ev_var rfl or) fun H10 v10 s10 o10 => ?_
            have l79 : Lt (hid X l) H6 (hid (hid X l) l7) H9 := lt7.trans (l8.trans l9)
            have i9 : Its (fun r : List (Fq q) => oRow r) (hid X l) H9 acc ((((List.range n).take i).filter fun x => decide (x ∉ form.map ld)).map (arowM n form)) := ((ia5.sm s6).up l79).dn hid_wk
            have l9' : Lt (hid X l) H6 (hid X l) H9 := ⟨fun a o na e => ⟨na, (l79.go a o na e).2⟩, k9, fun _ h => h⟩
            have lw : Lt (hid X l) H10 (hid X l) (upd H10 l (.lst (acc ++ [v10]))) := (Lt.refl (k9.same s10)).write (.inr rfl)
            refine ⟨⟨⟨_, _, _, _, _, rfl, upd_same, ?_⟩, same_write ((sa.trans s5).trans (s6.trans (sb.trans s10))) hl0⟩, ((l5.same s6).trans (l9'.same s10)).trans lw⟩
            rw [filt_step hx, if_pos hb]
            exact ((i9.sm s10).up lw).snoc (up lw o10)
      · refine ⟨⟨⟨_, _, _, _, _, rfl, s6 _ _ ea5, ?_⟩, (sa.trans s5).trans s6⟩, l5.same s6⟩
        rw [filt_step hx, if_neg (by rw [hb]; simp), List.append_nil]
        exact ia5.sm s6
    · rintro σ1 H4 l4 ⟨⟨y3, y6, y7, y8, acc, rfl, ea, ia⟩, sa⟩
      rw [take_all] at ia
      have k4 : Kn X H4 := kn_wk l4.kn hid_wk
      have ofound : oRows ((frees_ n form).map (arowM n form)) X H4 (.ref l) := oL.mk (notKn k1 nl) ea (ia.dn hid_wk) (by
        have := filt_le (f := fun x : Nat => x) (p := fun x => decide (x ∉ form.map ld)) (xs := List.range n) (i := n)
        rw [List.length_map, List.length_range] at this
        rw [List.length_map]
        unfold frees_
        have h2 := List.length_filter_le (fun x => decide (x ∉ form.map ld)) (List.range n)
        rw [List.length_range] at h2
        omega)
      exact s_ret k4 (ev_law_form ⟨acr_rows hp, hn100⟩ (ev_var rfl (dn hid_wk (up (L2.trans (l3.trans l4)) h1))) (ev_var rfl ofound)) fun H5 v5 s5 o5 => post H5 v5 (sa.trans s5) o5
/-! def _law_sizes: slots 0=_law_some 1=_law_lower 2=_law_found 3=_law_form_here -/
abbrev N_law_sizes : List Str := ["_law_some", "_law_lower", "_law_found", "_law_form_here"]
theorem sc_law_sizes : FnScope N_law_sizes ["_law_some"] (defScope (topS 84)) := ⟨rfl, rfl, rfl, by decide +kernel, rfl, by decide +kernel, by decide +kernel⟩
def sp_law_sizes : L2.Sp := mkSp (ι := (q : Pm) × List (List (List (Fq q)))) (fun i X H vs => a1 (oTabs i.2) X H vs) (fun i => oL (fun z : Int => oI z) (szI 0 i.2))
theorem ev_law_sizes {q : Pm} {fs : List (List (List (Fq q)))} (h1 : EvP ta σ X H (oTabs fs)) : EvP (tCall sp_law_sizes [] E0 (tCons ta tNil)) σ X H (oL (fun z : Int => oI z) (szI 0 fs)) :=
  ev_call (⟨q, fs⟩ : (q : Pm) × List (List (List (Fq q)))) (ea1 h1)
theorem sz_len {q : Pm} : ∀ (fs : List (List (List (Fq q)))) (l : Int), (szI l fs).length = fs.length
  | [], _ => rfl
  | f :: fs, l => by
    show (szI f.length fs).length + 1 = fs.length + 1
    rw [sz_len fs]
def szL {q : Pm} (l : Int) (fs : List (List (List (Fq q)))) : Int := fs.foldl (fun _ f => (f.length : Int)) l
theorem sz_snoc {q : Pm} (f : List (List (Fq q))) : ∀ (fs : List (List (List (Fq q)))) (l : Int), szI l (fs ++ [f]) = szI l fs ++ [(f.length : Int) - szL l fs]
  | [], l => rfl
  | g :: fs, l => by
    show _ :: szI g.length (fs ++ [f]) = _ :: (szI g.length fs ++ _)
    rw [sz_snoc f fs]
    rfl
theorem c_law_sizes (T : Tp K mg) : Ct w K mg base 1 "_law_sizes" sp_law_sizes := by
  refine ct_mk T (i := 84) (by decide) sc_law_sizes (fun _ _ _ _ _ _ us hl => match us, hl with | [_], _ => rfl) (mkSp_len fun i X H vs h => ?_) fun f cdv A outer s H vs Q E hr h => ?_
  · exact a1_len h
  · obtain ⟨⟨q, fs⟩, X, k, ⟨u1, rfl, h1⟩, post⟩ := h
    dsimp only at h1 post
    have nd := sc_law_sizes.nd
    refine ⟨_, PSs.nox (pss_cons (ps_set (i := 1) nd rfl (.inl rfl) pe_int)
  (pss_cons (ps_set (i := 2) nd rfl (.inl rfl) (pe_lst pa_nil))
  (pss_cons (ps_for PassesOwn.never rfl (pi_listK K (pv 0)) (pg_name (i := 3) nd rfl (Or.inl rfl))
    (pss_cons (ps_expr (pe_bm PySem.F.plainAttrs_list PySem.F.slot_list_append PySem.F.type_list_append mt_append (pv 2) (pa_cons (pe_op op_sub (pe_callB (call_lenK K) (by rfl) (T.fr "len" (by decide)) PySem.boot_len (pa_cons (pv 3) pa_nil)) (pv 1)) pa_nil)))
  (pss_one (ps_set (i := 1) nd rfl (.inl rfl) (pe_callB (call_lenK K) (by rfl) (T.fr "len" (by decide)) PySem.boot_len (pa_cons (pv 3) pa_nil))))))
  (pss_one (ps_ret (pv 2)))))), ?_⟩
    have hb := oL_len h1
    refine s_set k (ev_int (i := 0)) fun H1 v1 s1 o1 => ?_
    have e1 : v1 = .int 0 := o1
    subst e1
    have k1 := k.same s1
    refine s_new k1 (en_nil (R := fun z : Int => oI z)) fun H2 l vs s2 nl el it2 l2 => ?_
    have hv0 : vs = [] := List.length_eq_zero_iff.mp it2.1
    subst hv0
    have h12 := up l2 (rsm s1 h1)
    refine s_for l2.kn (ei_list (ev_var rfl h12)) fun H3 s3 l3 => ?_
    refine ⟨fun i σ1 H4 => (∃ z, σ1 = [some u1, some (.int (szL 0 (fs.take i))), some (.ref l), z]) ∧ H4 l = some (.lst ((szI 0 (fs.take i)).map V.int)) ∧ Same H H4, ⟨⟨none, by rw [List.take_zero]; rfl⟩, by rw [List.take_zero]; exact s3 _ _ el, (s1.trans s2).trans s3⟩, ?_, ?_⟩
    · rintro i f σ1 H4 H5 vf hf l4 ⟨⟨z, rfl⟩, ea, sa⟩ s5 hvf
      have l5 := l4.same s5
      have htk : fs.take (i + 1) = fs.take i ++ [f] := by rw [List.take_add_one, hf]; rfl
      refine tg1 _ ?_
      have hfl := (List.getElem?_eq_some_iff.mp hf).1
      refine s_append l5.kn rfl (s5 _ _ ea) (by rw [List.length_map, sz_len, List.length_take]; omega) (ev_subI (ev_len (ev_var rfl hvf)) (ev_var (O := oI (szL 0 (fs.take i))) rfl rfl)) fun H6 v6 s6 o6 => ?_
      have e6 : v6 = .int ((f.length : Int) - szL 0 (fs.take i)) := o6
      subst e6
      have lw : Lt (hid X l) H6 (hid X l) (upd H6 l (.lst ((szI 0 (fs.take i)).map V.int ++ [.int ((f.length : Int) - szL 0 (fs.take i))]))) := (Lt.refl (l5.kn.same s6)).write (.inr rfl)
      refine s_set1 lw.kn (ev_len (ev_var rfl (up lw (rsm s6 hvf)))) fun H7 v7 s7 o7 => ?_
      have e7 : v7 = .int (f.length : Int) := o7
      subst e7
      refine ⟨⟨⟨some vf, ?_⟩, ?_, (same_write ((sa.trans s5).trans s6) (s1.free nl)).trans s7⟩, ((l5.same s6).trans lw).same s7⟩
      · rw [htk]
        unfold szL
        rw [List.foldl_append]
        rfl
      · rw [htk, sz_snoc, List.map_append]
        exact s7 _ _ upd_same
    · rintro σ1 H4 l4 ⟨⟨z, rfl⟩, ea, sa⟩
      rw [take_all] at ea
      have or : oL (fun z : Int => oI z) (szI 0 fs) X H4 (.ref l) := oL.mk (notKn k1 nl) ea (Its.of_flat (f := V.int)) (by rw [sz_len]; exact hb)
      exact s_ret (kn_wk l4.kn hid_wk) (ev_var rfl or) fun H5 v5 s5 o5 => post H5 v5 (sa.trans s5) o5
/-! def _law_turned: slots 0=_law_crew_here 1=_law_p 2=_law_size 3=_law_tables 4=_law_row 5=_law_j 6=_law_table -/
abbrev N_law_turned : List Str := ["_law_crew_here", "_law_p", "_law_size", "_law_tables", "_law_row", "_law_j", "_law_table"]
theorem sc_law_turned : FnScope N_law_turned ["_law_crew_here"] (defScope (topS 85)) := ⟨rfl, rfl, rfl, by decide +kernel, rfl, by decide +kernel, by decide +kernel⟩
def sp_law_turned : L2.Sp := mkSp (ι := (q : Pm) × Nat × List (List (List (Fq q)))) (fun i X H vs => CrOk i.2.1 i.2.2 ∧ a1 (oCrew i.2.1 i.2.2) X H vs) (fun i => oCrew i.2.1 (i.2.2.map (trM i.2.1)))
theorem ev_law_turned {q : Pm} {n : Nat} {tabs : List (List (List (Fq q)))} (hp : CrOk n tabs) (h1 : EvP ta σ X H (oCrew n tabs)) : EvP (tCall sp_law_turned [] E0 (tCons ta tNil)) σ X H (oCrew n (tabs.map (trM n))) :=
  ev_call (⟨q, n, tabs⟩ : (q : Pm) × Nat × List (List (List (Fq q)))) (EvA.pre hp (ea1 h1))
theorem c_law_turned (T : Tp K mg) : Ct w K mg base 1 "_law_turned" sp_law_turned := by
  refine ct_mk T (i := 85) (by decide) sc_law_turned (fun _ _ _ _ _ _ us hl => match us, hl with | [_], _ => rfl) (mkSp_len fun i X H vs h => ?_) fun f cdv A outer s H vs Q E hr h => ?_
  · exact a1_len h.2
  · obtain ⟨⟨q, n, tabs⟩, X, k, ⟨ok, u1, rfl, h1⟩, post⟩ := h
    dsimp only at ok h1 post
    have nd := sc_law_turned.nd
    refine ⟨_, PSs.nox (pss_cons (ps_asg (pv 0) (pg_tup (by rfl) (pgs_cons (pg_name (i := 1) nd rfl (Or.inl rfl)) (pgs_cons (pg_name (i := 2) nd rfl (Or.inr rfl)) (pgs_cons (pg_name (i := 3) nd rfl (Or.inl rfl)) pgs_nil)))))
  (pss_one (ps_ret (pe_tup (pa_cons (pv 1) (pa_cons (pv 2) (pa_cons (pe_lc (own := [("_law_table", 6)]) (g := gName 6) (tt := tYes) rfl nd (pi_listK K (pv 3)) (blkOk_by (N := N_law_turned) (sc := (defScope (topS 85))) (by decide +kernel)) (fun _ _ _ _ _ => pg_name (i := 6) nd rfl (Or.inr rfl)) (fun _ _ _ _ _ => pts_nil) (fun _ _ _ _ _ => pe_lc (own := [("_law_j", 5)]) (g := gName 5) (tt := tYes) rfl nd (pi_range1 (by rfl) (T.fr "range" (by decide)) (pa_cons (pv 2) pa_nil)) (blkOk_by (N := N_law_turned) (sc := ({ kind := .function, names := [(".0", .local), ("_law_table", .cell), ("range", .globalImplicit), ("_law_size", .cell)], isGenerator := false, isCoroutine := false, more := [] } : Scope)) (by decide +kernel)) (fun _ _ _ _ _ => pg_name (i := 5) nd rfl (Or.inr rfl)) (fun _ _ _ _ _ => pts_nil) (fun _ _ _ _ _ => pe_lc (own := [("_law_row", 4)]) (g := gName 4) (tt := tYes) rfl nd (pi_listK K (pv 6)) (blkOk_by (N := N_law_turned) (sc := ({ kind := .function, names := [(".0", .local), ("_law_j", .cell), ("_law_table", .cell)], isGenerator := false, isCoroutine := false, more := [] } : Scope)) (by decide +kernel)) (fun _ _ _ _ _ => pg_name (i := 4) nd rfl (Or.inl rfl)) (fun _ _ _ _ _ => pts_nil) (fun _ _ _ _ _ => pe_ix (ix_listK K) (pv 4) (pv 5) (fun _ _ => rfl))))) pa_nil))))))), ?_⟩
    have hn := ok.top
    refine s_unpack3 k (ev_var rfl h1) fun H1 x y z s1 hx hy hz => ?_
    have hy2 : y = .int (n : Int) := hy
    have py : ∀ {X H}, oN n X H y := fun {_ _} => hy2
    refine s_ret (k.same s1) (ev_tup3 (ev_var rfl hx) (ev_var rfl hy) ((en_map (R' := fun m : List (List (Fq q)) => oRows m) (trM n) (ei_list (ev_var rfl hz)) (oL_len hz) fun A hA Y H5 v5 l5 rv => ⟨_, tg1, rfl, ?_⟩).ev (by rw [List.length_map]; exact oL_len hz))) fun H5 v5 s5 o5 => post H5 v5 (s1.trans s5) o5
    have sq := ok.sq A hA
    refine (en_map (R := fun j : Nat => oN j) (R' := fun r : List (Fq q) => oRow r) (fun j => A.map fun row => vc row j) (ei_range (n := n) (ev_var rfl py) (by omega)) (by rw [List.length_range]; omega) fun j hj Y6 H6 v6 l6 rv6 => ⟨_, tg1, rfl, ?_⟩).ev (by rw [List.length_map, List.length_range]; omega)
    have hj2 := List.mem_range.mp hj
    refine (en_map (R' := fun a : Fq q => oF a) (fun row => vc row j) (ei_list (ev_var rfl (up l6 rv))) (by rw [sq.1]; omega) fun row hrw Y7 H7 v7 l7 rv7 => ⟨_, tg1, rfl, ?_⟩).ev (by rw [List.length_map, sq.1]; omega)
    exact ev_ix (R := fun a : Fq q => oF a) (i := j) (ev_var rfl rv7) (ev_var rfl (up l7 rv6)) (vc_get (by rw [sq.2 row hrw]; exact hj2))
end
end Still

set_option Elab.async false
set_option linter.all false
set_option maxRecDepth 100000
set_option maxHeartbeats 4000000
namespace Still
open PySem PySem.Spec PyProof.Rows L2
section
variable {w : World} {K : PySem.W.Frag} {mg : Str → Option Value} {base : Heap}
variable {σ : L2.St} {X Y : AX} {H H1 : Hp} {ta tb tc td te tf tg' : TE} {t u : TS} {D : Ends} {l : Addr} {N N' : Nat} {A B O : Ob}
/-! def _law_part: slots 0=_law_crew_here 1=_law_lower 2=_law_upper 3=_law_p 4=_law_size 5=_law_tables 6=_law_row 7=_law_leads 8=_law_rows 9=_law_found 10=_law_table 11=_law_made 12=_law_there 13=_law_one -/
abbrev N_law_part : List Str := ["_law_crew_here", "_law_lower", "_law_upper", "_law_p", "_law_size", "_law_tables", "_law_row", "_law_leads", "_law_rows", "_law_found", "_law_table", "_law_made", "_law_there", "_law_one"]
theorem sc_law_part : FnScope N_law_part ["_law_crew_here", "_law_lower", "_law_upper"] (defScope (topS 79)) := ⟨rfl, rfl, rfl, by decide +kernel, rfl, by decide +kernel, by decide +kernel⟩
def sp_law_part : L2.Sp := mkSp (ι := (q : Pm) × PbI q) (fun i X H vs => PbOk i.2.1 i.2.2.1 i.2.2.2.1 i.2.2.2.2 ∧ a3 (oCrew i.2.1 i.2.2.1) (oRows i.2.2.2.1) (oRows i.2.2.2.2) X H vs) (fun i => oCrew (betw i.2.2.2.1 i.2.2.2.2).length (partM i.2.2.2.1 i.2.2.2.2 i.2.2.1))
theorem ev_law_part {q : Pm} {n : Nat} {tabs : List (List (List (Fq q)))} {lower upper : List (List (Fq q))} (ok : PbOk n tabs lower upper) (h1 : EvP ta σ X H (oCrew n tabs)) (h2 : EvP tb σ X H (oRows lower)) (h3 : EvP tc σ X H (oRows upper)) : EvP (tCall sp_law_part [] E0 (tCons ta (tCons tb (tCons tc tNil)))) σ X H (oCrew (betw lower upper).length (partM lower upper tabs)) :=
  ev_call (⟨q, n, tabs, lower, upper⟩ : (q : Pm) × PbI q) (EvA.pre ok (ea3 h1 h2 h3))
theorem c_law_part (c_law_lead : Ct w K mg base 2 "_law_lead" sp_law_lead) (c_law_led : Ct w K mg base 2 "_law_led" sp_law_led) (c_law_less : Ct w K mg base 2 "_law_less" sp_law_less) (T : Tp K mg) : Ct w K mg base 3 "_law_part" sp_law_part := by
  refine ct_mk T (i := 79) (by decide) sc_law_part (fun _ _ _ _ _ _ us hl => match us, hl with | [_, _, _], _ => rfl) (mkSp_len fun i X H vs h => ?_) fun f cdv A outer s H vs Q E hr h => ?_
  · exact a3_len h.2
  · obtain ⟨⟨q, n, tabs, lower, upper⟩, X, k, ⟨⟨ok, hl, hu⟩, u1, u2, u3, rfl, h1, h2, h3⟩, post⟩ := h
    dsimp only at ok hl hu h1 h2 h3 post
    have nd := sc_law_part.nd
    refine ⟨_, PSs.nox (pss_cons (ps_asg (pv 0) (pg_tup (by rfl) (pgs_cons (pg_name (i := 3) nd rfl (Or.inl rfl)) (pgs_cons (pg_name (i := 4) nd rfl (Or.inl rfl)) (pgs_cons (pg_name (i := 5) nd rfl (Or.inl rfl)) pgs_nil)))))
  (pss_cons (ps_set (i := 7) nd rfl (.inr rfl) (pe_lc (own := [("_law_row", 6)]) (g := gName 6) (tt := tYes) rfl nd (pi_listK K (pv 1)) (blkOk_by (N := N_law_part) (sc := (defScope (topS 79))) (by decide +kernel)) (fun _ _ _ _ _ => pg_name (i := 6) nd rfl (Or.inl rfl)) (fun _ _ _ _ _ => pts_nil) (fun _ _ _ _ _ => pe_ct c_law_lead hr (by decide) (by rfl) (pa_cons (pv 6) pa_nil))))
  (pss_cons (ps_setLc (i := 8) (own := [("_law_row", 6)]) (g := gName 6) rfl nd rfl rfl (sw_true rfl rfl rfl (by decide +kernel)) (pi_listK K (pv 2)) (blkOk_by (N := N_law_part) (sc := (defScope (topS 79))) (by decide +kernel)) (fun _ _ _ _ _ => pg_name (i := 6) nd rfl (Or.inl rfl)) (fun _ _ _ _ _ => pts_one (pt_cmpR (op_notInK K) (pe_ct c_law_lead hr (by decide) (by rfl) (pa_cons (pv 6) pa_nil)) (pv 7) (by rfl))) (fun _ _ _ _ _ => pv 6))
  (pss_cons (ps_set (i := 9) nd rfl (.inl rfl) (pe_lst pa_nil))
  (pss_cons (ps_for PassesOwn.never rfl (pi_listK K (pv 5)) (pg_name (i := 10) nd rfl (Or.inl rfl))
    (pss_cons (ps_set (i := 11) nd rfl (.inl rfl) (pe_lst pa_nil))
  (pss_cons (ps_for PassesOwn.never rfl (pi_listK K (pv 8)) (pg_name (i := 6) nd rfl (Or.inl rfl))
    (pss_cons (ps_set (i := 12) nd rfl (.inr rfl) (pe_ct c_law_led hr (by decide) (by rfl) (pa_cons (pv 3) (pa_cons (pv 6) (pa_cons (pv 10) pa_nil)))))
  (pss_cons (ps_for PassesOwn.never rfl (pi_listK K (pv 1)) (pg_name (i := 13) nd rfl (Or.inl rfl))
    (pss_one (ps_set (i := 12) nd rfl (.inr rfl) (pe_ct c_law_less hr (by decide) (by rfl) (pa_cons (pv 3) (pa_cons (pv 12) (pa_cons (pe_ix (ix_listK K) (pv 12) (pe_ct c_law_lead hr (by decide) (by rfl) (pa_cons (pv 13) pa_nil)) (fun _ _ => rfl)) (pa_cons (pv 13) pa_nil))))))))
  (pss_one (ps_expr (pe_bm PySem.F.plainAttrs_list PySem.F.slot_list_append PySem.F.type_list_append mt_append (pv 11) (pa_cons (pe_lc (own := [("_law_one", 13)]) (g := gName 13) (tt := tYes) rfl nd (pi_listK K (pv 8)) (blkOk_by (N := N_law_part) (sc := (defScope (topS 79))) (by decide +kernel)) (fun _ _ _ _ _ => pg_name (i := 13) nd rfl (Or.inl rfl)) (fun _ _ _ _ _ => pts_nil) (fun _ _ _ _ _ => pe_ix (ix_listK K) (pv 12) (pe_ct c_law_lead hr (by decide) (by rfl) (pa_cons (pv 13) pa_nil)) (fun _ _ => rfl))) pa_nil)))))))
  (pss_one (ps_expr (pe_bm PySem.F.plainAttrs_list PySem.F.slot_list_append PySem.F.type_list_append mt_append (pv 9) (pa_cons (pv 11) pa_nil)))))))
  (pss_one (ps_ret (pe_tup (pa_cons (pv 3) (pa_cons (pe_callB (call_lenK K) (by rfl) (T.fr "len" (by decide)) PySem.boot_len (pa_cons (pv 8) pa_nil)) (pa_cons (pv 9) pa_nil))))))))))), ?_⟩
    refine s_unpack3 k (ev_var rfl h1) fun H1 x y z s1 hx hy hz => ?_
    have hx : x = .int (q.n : Int) := hx
    have px : ∀ {X H}, oN q.n X H x := fun {_ _} => hx
    have k1 := k.same s1
    have htop := ok.top
    have h2a := rsm s1 h2
    have h3a := rsm s1 h3
    refine s_set k1 ((en_map (R' := fun k : Nat => oN k) ld (ei_list (ev_var rfl h2a)) (oL_len h2) fun o ho Y H5 v5 l5 rv => ⟨_, tg1, rfl, ev_law_lead (hl.hd o ho) (ev_var rfl rv)⟩).ev (by rw [List.length_map]; exact oL_len h2)) fun H2 vl s2 ol => ?_
    have k2 := k1.same s2
    have h3b := rsm s2 h3a
    have hbb : (betw lower upper).length ≤ 5000 := Nat.le_trans (List.length_filter_le _ _) (oL_len h3)
    have hbm : ∀ r, r ∈ betw lower upper → r ∈ upper := fun r hr => (List.mem_filter.mp hr).1
    refine s_set k2 ((((en_lc (R' := fun r : List (Fq q) => oRow r) (fun r => r) (fun r => decide (ld r ∉ lower.map ld)) (ei_list (ev_var rfl h3b)) (oL_len h3) fun o ho Y H5 v5 l5 rv => ⟨_, tg1, rfl, et_test (ev_notIn (ev_law_lead (hu.hd o ho) (ev_var rfl rv)) (ev_var rfl (up l5 ol))), fun _ => ev_var rfl rv⟩).eq (List.map_id' _)).ev hbb)) fun H3 vr s3 or3 => ?_
    have or3 : oRows (betw lower upper) X H3 vr := or3
    have k3 := k2.same s3
    have s13 := (s1.trans s2).trans s3
    refine s_new k3 (en_nil (R := fun t : List (List (Fq q)) => oRows t)) fun H4 f1 vs s4 nf ef it4 l4 => ?_
    have hv0 : vs = [] := List.length_eq_zero_iff.mp it4.1
    subst hv0
    have nf0 : H f1 = none := s13.free nf
    have hz4 := up l4 (rsm (s2.trans s3) hz)
    have hr4 := up l4 or3
    have h24 := up l4 (rsm (s2.trans s3) h2a)
    refine s_for l4.kn (ei_list (ev_var rfl hz4)) fun H5 s5 l5 => ?_
    refine ⟨fun i σ1 H6 => (∃ z6 z10 z11 z12 z13, σ1 = [some u1, some u2, some u3, some x, some y, some z, z6, some vl, some vr, some (.ref f1), z10, z11, z12, z13]) ∧ (∃ acc, H6 f1 = some (.lst acc) ∧ Its (fun t : List (List (Fq q)) => oRows t) (hid X f1) H6 acc ((tabs.take i).map (part1 lower upper))) ∧ Same H H6, ⟨⟨none, none, none, none, none, rfl⟩, ⟨[], s5 _ _ ef, by rw [List.take_zero]; exact Its.nil⟩, (s13.trans s4).trans s5⟩, ?_, ?_⟩
    · rintro i M σ1 H6 H7 vM hM l6 ⟨⟨z6, z10, z11, z12, z13, rfl⟩, ⟨acc, ea, ia⟩, sa⟩ s7 hvM
      have l7 := l6.same s7
      have hMm := List.mem_of_getElem? hM
      have k7 := l7.kn
      have ea7 := s7 _ _ ea
      have lk7 := l5.trans l7
      have hr7 := up lk7 hr4
      have h27 := up lk7 h24
      refine tg1 _ ?_
      refine s_new k7 (en_nil (R := fun r : List (Fq q) => oRow r)) fun H8 g vs8 s8 ng eg it8 l8 => ?_
      have hv8 : vs8 = [] := List.length_eq_zero_iff.mp it8.1
      subst hv8
      have sa7 := sa.trans s7
      have fg : f1 ≠ g := ne_of_none ea7 ng
      have hr8 := up l8 hr7
      have h28 := up l8 h27
      have hM8 := up l8 hvM
      refine s_for l8.kn (ei_list (ev_var rfl hr8)) fun H9 s9 l9 => ?_
      refine ⟨fun j σ2 H10 => (∃ z6 z12 z13, σ2 = [some u1, some u2, some u3, some x, some y, some z, z6, some vl, some vr, some (.ref f1), some vM, some (.ref g), z12, z13]) ∧ H10 f1 = some (.lst acc) ∧ (∃ acc2, H10 g = some (.lst acc2) ∧ Its (fun r : List (Fq q) => oRow r) (hid (hid X f1) g) H10 acc2 (((betw lower upper).take j).map fun r => crdM lower (betw lower upper) (ledM r M))) ∧ Same H H10, ⟨⟨z6, z12, z13, rfl⟩, s9 _ _ (s8 _ _ ea7), ⟨[], s9 _ _ eg, by rw [List.take_zero]; exact Its.nil⟩, (sa7.trans s8).trans s9⟩, ?_, ?_⟩
      · rintro j r σ2 H10 H11 vrr hr l10 ⟨⟨z6, z12, z13, rfl⟩, eF, ⟨acc2, eg2, ig2⟩, sb⟩ s11 hvr
        have l11 := l10.same s11
        have hrm := hbm r (List.mem_of_getElem? hr)
        have hrl := hu.row r hrm
        have lk11 := l9.trans l11
        have hld := ok.ledn hMm hrl
        refine tg1 _ ?_
        refine s_set l11.kn (ev_law_led (ok.led hMm hrl) (ev_var rfl px) (ev_var rfl hvr) (ev_var rfl (up lk11 hM8))) fun H12 v12 s12 o12 => ?_
        have l12 := l11.same s12
        have h212 := up (lk11.same s12) h28
        refine s_for l12.kn (ei_list (ev_var rfl h212)) fun H13 s13' l13 => ?_
        refine ⟨fun m σ3 H14 => (∃ z13 v, σ3 = [some u1, some u2, some u3, some x, some y, some z, some vrr, some vl, some vr, some (.ref f1), some vM, some (.ref g), some v, z13] ∧ oRow (leftM (lower.take m) (ledM r M)) (hid (hid X f1) g) H14 v) ∧ H14 f1 = some (.lst acc) ∧ H14 g = some (.lst acc2) ∧ Same H H14, ⟨⟨z13, v12, rfl, by rw [List.take_zero]; exact rsm s13' o12⟩, s13' _ _ (s12 _ _ (s11 _ _ eF)), s13' _ _ (s12 _ _ (s11 _ _ eg2)), ((sb.trans s11).trans s12).trans s13'⟩, ?_, ?_⟩
        · rintro m o σ3 H14 H15 vo ho l14 ⟨⟨z13, v, rfl, ov⟩, eF3, eg3, sc⟩ s15 hvo
          have l15 := l14.same s15
          have hm := List.mem_of_getElem? ho
          have hll : (leftM (lower.take m) (ledM r M)).length = n := left_len (hl.take m).row hld
          refine tg1 _ ?_
          refine s_set1 l15.kn (ev_law_less (q := q) (c := vc (leftM (lower.take m) (ledM r M)) (ld o)) (by rw [hll, hl.row o hm]) (ev_var rfl px) (ev_var rfl (rsm s15 ov)) (ev_ix (R := fun a : Fq q => oF a) (i := ld o) (ev_var rfl (rsm s15 ov)) (ev_law_lead (hl.hd o hm) (ev_var rfl hvo)) (vc_get (by rw [hll]; exact hl.lt Fd.ne hm))) (ev_var rfl hvo)) fun H16 v16 s16 o16 => ?_
          refine ⟨⟨⟨_, _, rfl, ?_⟩, s16 _ _ (s15 _ _ eF3), s16 _ _ (s15 _ _ eg3), (sc.trans s15).trans s16⟩, l15.same s16⟩
          unfold leftM
          rw [take_fold _ _ ho]
          exact o16
        · rintro σ3 H14 l14 ⟨⟨z13, v, rfl, ov⟩, eF3, eg3, sc⟩
          rw [take_all] at ov
          have lk14 := l13.trans l14
          have hll : (leftM lower (ledM r M)).length = n := left_len hl.row hld
          have hr14 := up ((lk11.same s12).trans lk14) hr8
          have hlen : acc2.length < 5000 := by
            have e1 := ig2.1
            rw [List.length_map, List.length_take] at e1
            have := (List.getElem?_eq_some_iff.mp hr).1
            omega
          refine s_append l14.kn rfl eg3 hlen ((en_map (R' := fun a : Fq q => oF a) (fun one => vc (leftM lower (ledM r M)) (ld one)) (ei_list (ev_var rfl hr14)) hbb fun o ho Y H15 v15 l15 rv => ⟨_, tg1, rfl, ev_ix (R := fun a : Fq q => oF a) (i := ld o) (ev_var rfl (up l15 ov)) (ev_law_lead (hu.hd o (hbm o ho)) (ev_var rfl rv)) (vc_get (by rw [hll]; exact hu.lt Fd.ne (hbm o ho)))⟩).ev (by rw [List.length_map]; exact hbb)) fun H15 v15 s15 o15 => ?_
          have lw : Lt (hid (hid X f1) g) H15 (hid (hid X f1) g) (upd H15 g (.lst (acc2 ++ [v15]))) := (Lt.refl (l14.kn.same s15)).write (.inr rfl)
          have lall := (((l12.trans lk14).same s15).trans lw)
          refine ⟨⟨⟨_, _, _, rfl⟩, ?_, ⟨_, upd_same, ?_⟩, same_write (sc.trans s15) (sa7.free ng)⟩, lall⟩
          · rw [upd_ne fg]
            exact s15 _ _ eF3
          · rw [take_mapS hr]
            exact ((((ig2.sm s11).sm s12).up ((lk14.same s15).trans lw))).snoc (up lw o15)
      · rintro σ2 H10 l10 ⟨⟨z6, z12, z13, rfl⟩, eF, ⟨acc2, eg2, ig2⟩, sb⟩
        rw [take_all] at ig2
        have l810 := l9.trans l10
        have k10 : Kn (hid X f1) H10 := kn_wk l10.kn hid_wk
        have og : oRows (part1 lower upper M) (hid X f1) H10 (.ref g) := oL.mk (notKn k7 ng) eg2 (ig2.dn hid_wk) (by unfold part1; rw [List.length_map]; exact hbb)
        have lx := (l8.trans l810)
        have lx2 : Lt (hid X f1) H7 (hid X f1) H10 := ⟨fun a o na e => ⟨na, (lx.go a o na e).2⟩, k10, fun _ h => h⟩
        have hlen : acc.length < 5000 := by
          have e1 := ia.1
          rw [List.length_map, List.length_take] at e1
          have := (List.getElem?_eq_some_iff.mp hM).1
          have := oL_len hz
          omega
        refine s_append k10 rfl eF hlen (ev_var rfl og) fun H11 v11 s11 o11 => ?_
        have lw : Lt (hid X f1) H11 (hid X f1) (upd H11 f1 (.lst (acc ++ [v11]))) := (Lt.refl (k10.same s11)).write (.inr rfl)
        refine ⟨⟨⟨_, _, _, _, _, rfl⟩, ⟨_, upd_same, ?_⟩, same_write (sb.trans s11) nf0⟩, (l7.trans (lx2.same s11)).trans lw⟩
        rw [take_mapS hM]
        exact ((((ia.sm s7).up (lx2.same s11))).up lw).snoc (up lw o11)
    · rintro σ1 H6 l6 ⟨⟨z6, z10, z11, z12, z13, rfl⟩, ⟨acc, ea, ia⟩, sa⟩
      rw [take_all] at ia
      have lk := l5.trans l6
      have of : oTabs (partM lower upper tabs) X H6 (.ref f1) := oL.mk (notKn k3 nf) ea (ia.dn hid_wk) (by unfold partM; rw [List.length_map]; exact oL_len hz)
      have hr6 : oRows (betw lower upper) X H6 vr := dn hid_wk (up lk hr4)
      exact s_ret (kn_wk l6.kn hid_wk) (ev_tup3 (ev_var rfl px) (ev_len (ev_var rfl hr6)) (ev_var rfl of)) fun H7 v7 s7 o7 => post H7 v7 (sa.trans s7) o7
/-! def _law_is_tower: slots 0=_law_crew_here 1=_law_thing 2=_law_p 3=_law_size 4=_law_tables 5=_law_lower 6=_law_form_here 7=_law_here 8=_law_row -/
abbrev N_law_is_tower : List Str := ["_law_crew_here", "_law_thing", "_law_p", "_law_size", "_law_tables", "_law_lower", "_law_form_here", "_law_here", "_law_row"]
theorem sc_law_is_tower : FnScope N_law_is_tower ["_law_crew_here", "_law_thing"] (defScope (topS 82)) := ⟨rfl, rfl, rfl, by decide +kernel, rfl, by decide +kernel, by decide +kernel⟩
def sp_law_is_tower : L2.Sp := mkSp (ι := (q : Pm) × TwI q) (fun i X H vs => TwOk i.2.1 i.2.2.1 i.2.2.2 ∧ a2 (oCrew i.2.1 i.2.2.1) (oTabs i.2.2.2) X H vs) (fun i => oB true)
theorem ev_law_is_tower {q : Pm} {n : Nat} {tabs fs : List (List (List (Fq q)))} (ok : TwOk n tabs fs) (h1 : EvP ta σ X H (oCrew n tabs)) (h2 : EvP tb σ X H (oTabs fs)) : EvP (tCall sp_law_is_tower [] E0 (tCons ta (tCons tb tNil))) σ X H (oB true) :=
  ev_call (⟨q, n, tabs, fs⟩ : (q : Pm) × TwI q) (EvA.pre ok (ea2 h1 h2))
theorem sec_at {q : Pm} : ∀ {fs : List (List (List (Fq q)))} {l : List (List (Fq q))} {i : Nat} {f : List (List (Fq q))}, fs[i]? = some f → ((l :: fs).getD i [], f) ∈ secF l fs
  | [], l, i, f, h => by simp at h
  | g :: fs, l, 0, f, h => by
    have h : some g = some f := h
    cases h
    exact List.mem_cons_self
  | g :: fs, l, i + 1, f, h => List.mem_cons_of_mem _ (sec_at (fs := fs) (l := g) (i := i) h)
theorem c_law_is_tower (c_law_is_form : Ct w K mg base 4 "_law_is_form" sp_law_is_form) (c_law_is_still : Ct w K mg base 4 "_law_is_still" sp_law_is_still) (c_law_in : Ct w K mg base 4 "_law_in" sp_law_in) (c_law_part : Ct w K mg base 4 "_law_part" sp_law_part) (c_law_is_tight : Ct w K mg base 4 "_law_is_tight" sp_law_is_tight) (T : Tp K mg) : Ct w K mg base 5 "_law_is_tower" sp_law_is_tower := by
  refine ct_mk T (i := 82) (by decide) sc_law_is_tower (fun _ _ _ _ _ _ us hl => match us, hl with | [_, _], _ => rfl) (mkSp_len fun i X H vs h => ?_) fun f cdv A outer s H vs Q E hr h => ?_
  · exact a2_len h.2
  · obtain ⟨⟨q, n, tabs, fs⟩, X, k, ⟨⟨ok, tw⟩, u1, u2, rfl, h1, h2⟩, post⟩ := h
    dsimp only at ok tw h1 h2 post
    have nd := sc_law_is_tower.nd
    refine ⟨_, PSs.nox (pss_cons (ps_asg (pv 0) (pg_tup (by rfl) (pgs_cons (pg_name (i := 2) nd rfl (Or.inr rfl)) (pgs_cons (pg_name (i := 3) nd rfl (Or.inl rfl)) (pgs_cons (pg_name (i := 4) nd rfl (Or.inl rfl)) pgs_nil)))))
  (pss_cons (ps_if (PW.pt (pw_or (pt_not (pt_val (pe_callB (call_isiK2 K) (by rfl) (T.fr "isinstance" (by decide)) (by decide +kernel) (pa_cons (pv 1) (pa_cons (pe_bltn (v := .ty "list") (by rfl) (T.fr "list" (by decide)) (by decide +kernel) rfl) pa_nil))))) (pw_or1 (pt_cmpR (op_eqDK K hr.units) (pv 1) (pe_lst pa_nil) (nomark _)))))
    (pss_one (ps_ret pe_bl)) pss_nil)
  (pss_cons (ps_set (i := 5) nd rfl (.inl rfl) (pe_lst pa_nil))
  (pss_cons (ps_for PassesOwn.never rfl (pi_listK K (pv 1)) (pg_name (i := 6) nd rfl (Or.inr rfl))
    (pss_cons (ps_if (PW.pt (pw_or (pt_not (pt_val (pe_ct c_law_is_form hr (by decide) (by rfl) (pa_cons (pv 2) (pa_cons (pv 3) (pa_cons (pv 6) pa_nil)))))) (pw_or (pt_not (pt_val (pe_ct c_law_is_still hr (by decide) (by rfl) (pa_cons (pv 0) (pa_cons (pv 6) pa_nil))))) (pw_or1 (pt_cmpR op_le (pe_callB (call_lenK K) (by rfl) (T.fr "len" (by decide)) PySem.boot_len (pa_cons (pv 6) pa_nil)) (pe_callB (call_lenK K) (by rfl) (T.fr "len" (by decide)) PySem.boot_len (pa_cons (pv 5) pa_nil)) (nomark _))))))
    (pss_one (ps_ret pe_bl)) pss_nil)
  (pss_cons (ps_if (pt_not (pt_val (pe_callB (cr_allK K rfl) (by rfl) (T.fr "all" (by decide)) (by decide +kernel) (pa_cons (pe_lc (own := [("_law_row", 8)]) (g := gName 8) (tt := tYes) rfl nd (pi_listK K (pv 5)) (blkOk_by (N := N_law_is_tower) (sc := (defScope (topS 82))) (by decide +kernel)) (fun _ _ _ _ _ => pg_name (i := 8) nd rfl (Or.inl rfl)) (fun _ _ _ _ _ => pts_nil) (fun _ _ _ _ _ => pe_ct c_law_in hr (by decide) (by rfl) (pa_cons (pv 2) (pa_cons (pv 6) (pa_cons (pv 8) pa_nil))))) pa_nil))))
    (pss_one (ps_ret pe_bl)) pss_nil)
  (pss_cons (ps_set (i := 7) nd rfl (.inl rfl) (pe_ct c_law_part hr (by decide) (by rfl) (pa_cons (pv 0) (pa_cons (pv 5) (pa_cons (pv 6) pa_nil)))))
  (pss_cons (ps_if (pt_not (pt_val (pe_ct c_law_is_tight hr (by decide) (by rfl) (pa_cons (pe_ix (ix_tupK K) (pv 7) pe_int (fun _ _ => rfl)) (pa_cons (pe_ix (ix_tupK K) (pv 7) pe_int (fun _ _ => rfl)) (pa_cons (pe_ix (ix_tupK K) (pv 7) pe_int (fun _ _ => rfl)) pa_nil))))))
    (pss_one (ps_ret pe_bl)) pss_nil)
  (pss_one (ps_set (i := 5) nd rfl (.inl rfl) (pv 6))))))))
  (pss_one (ps_ret (pe_cmpR op_eq (pe_callB (call_lenK K) (by rfl) (T.fr "len" (by decide)) PySem.boot_len (pa_cons (pv 5) pa_nil)) (pv 3) (nomark _)))))))), ?_⟩
    have hne := tw_ne ok.pos tw
    have hn6 := ok.six
    refine s_unpack3 k (ev_var rfl h1) fun H1 x y z s1 hx hy hz => ?_
    have hx : x = .int (q.n : Int) := hx
    have hy : y = .int (n : Int) := hy
    have px : ∀ {X H}, oN q.n X H x := fun {_ _} => hx
    have py : ∀ {X H}, oN n X H y := fun {_ _} => hy
    have k1 := k.same s1
    have h11 := rsm s1 h1
    have h21 := rsm s1 h2
    refine s_if k1 (et_or (et_not (et_B (ev_isiL kib3 (ev_var rfl h21)))) fun _ => et_test (ev_eqD (R := fun m : List (List (List (Fq q))) => oTabs m) (by decide : (3 : Nat) ≤ 64) (ev_var rfl h21) ((en_nil (R := fun r : List (List (Fq q)) => oRows r)).ev (by simp)))) (fun hb => by rw [decide_eq_false hne] at hb; simp at hb) fun _ H2 s2 => ?_
    have k2 := k1.same s2
    refine s_set k2 ((en_nil (R := fun r : List (Fq q) => oRow r)).ev (by simp)) fun H3 v3 s3 o3 => ?_
    have k3 := k2.same s3
    have s13 := (s1.trans s2).trans s3
    have h13 := rsm (s2.trans s3) h11
    have h23 := rsm (s2.trans s3) h21
    refine s_for k3 (ei_list (ev_var rfl h23)) fun H4 s4 l4 => ?_
    refine ⟨fun i σ1 H5 => (∃ v5 z6 z7, σ1 = [some u1, some u2, some x, some y, some z, some v5, z6, z7, none] ∧ oRows (([] :: fs).getD i []) X H5 v5) ∧ Same H H5, ⟨⟨v3, none, none, rfl, rsm s4 o3⟩, s13.trans s4⟩, ?_, ?_⟩
    · rintro i f σ1 H5 H6 vf hf l5 ⟨⟨v5, z6, z7, rfl, o5⟩, sa⟩ s6 hvf
      have l6 := l5.same s6
      have lk := l4.trans l6
      have hs := CF.sec ok.pos ok.sq Lo.nil tw _ (sec_at hf)
      generalize hlow : (([] : List (List (Fq q))) :: fs).getD i [] = lower at hs o5
      have hlt := hs.lt
      dsimp only at hlt
      have hsL := hs.l
      have hsU := hs.u
      have hsM := hs.mu
      have hsE := hs.le
      have hsT := hs.tight
      dsimp only at hsL hsU hsM hsE hsT
      have h16 := up lk h13
      have o56 := rsm s6 o5
      refine tg1 _ ?_
      refine s_if l6.kn (et_or (et_not (et_B (ev_law_is_form ⟨hsU, fun z => by rw [z] at hlt; simp at hlt, by omega⟩ (ev_var rfl px) (ev_var rfl py) (ev_var rfl hvf)))) fun _ => et_or (et_not (et_B (ev_law_is_still ⟨ok.toCrOk, hsU⟩ (still_md ok.toCrOk hsU hsM) (ev_var rfl h16) (ev_var rfl hvf)))) fun _ => et_test (ev_I0 (ev_len (ev_var rfl hvf)) (ev_len (ev_var rfl o56)))) (fun hb => by
        exfalso
        rw [decide_eq_false (by omega)] at hb
        simp at hb) fun _ H7 s7 => ?_
      have l7 := l6.same s7
      have hvf7 := rsm s7 hvf
      have o57 := rsm s7 o56
      have h17 := rsm s7 h16
      refine s_if l7.kn (et_not (et_B (ev_allM (xs := lower) (f := fun r => hasM f r) ((en_map (R' := fun b : Bool => oB b) _ (ei_list (ev_var rfl o57)) (oL_len o57) fun o ho Y H8 v8 l8 rv => ⟨_, tg1, rfl, ev_law_in hsU.toPre (hsL.row o ho) (ev_var rfl px) (ev_var rfl (up l8 hvf7)) (ev_var rfl rv)⟩).ev (by rw [List.length_map]; exact oL_len o57))))) (fun hb => by
        exfalso
        have e2 : (lower.all fun r => hasM f r) = true := by
          rw [List.all_eq_true]
          intro r hr
          exact (has_iff hsU.toPre (hsL.row r hr)).mpr (hsE _ (Spn.mem hr))
        rw [e2] at hb
        simp at hb) fun _ H8 s8 => ?_
      have l8 := l7.same s8
      refine s_set l8.kn (ev_law_part ⟨ok.toCrOk, hsL.toPre, hsU.toPre⟩ (ev_var rfl (rsm s8 h17)) (ev_var rfl (rsm s8 o57)) (ev_var rfl (rsm s8 hvf7))) fun H9 v9 s9 o9 => ?_
      have l9 := l8.same s9
      have hti : TiOk (betw lower f).length (partM lower f tabs) := ⟨(sec_crA ok hs.toSec hs.lt).toCrB, hsT⟩
      refine s_if l9.kn (et_not (et_B (ev_law_is_tight hti (ev_t0 (ev_var rfl o9)) (ev_t1 (ev_var rfl o9)) (ev_t2 (ev_var rfl o9))))) (fun hb => by simp at hb) fun _ H10 s10 => ?_
      have l10 := l9.same s10
      refine s_set1 l10.kn (ev_var rfl (rsm ((s8.trans s9).trans s10) hvf7)) fun H11 v11 s11 o11 => ⟨⟨⟨v11, _, _, rfl, ?_⟩, (sa.trans s6).trans ((s7.trans s8).trans ((s9.trans s10).trans s11))⟩, l10.same s11⟩
      have e : (([] : List (List (Fq q))) :: fs).getD (i + 1) [] = f := by
        rw [List.getD_cons_succ, List.getD_eq_getElem?_getD, hf]; rfl
      rw [e]
      exact o11
    · rintro σ1 H5 l5 ⟨⟨v5, z6, z7, rfl, o5⟩, sa⟩
      have hp := List.length_pos_iff.mpr hne
      have e : (([] : List (List (Fq q))) :: fs).getD fs.length [] = plainM n := by
        have hl := cf_last tw hne
        rw [show fs.length = (fs.length - 1) + 1 by omega, List.getD_cons_succ, List.getD_eq_getElem?_getD, hl]; rfl
      rw [e] at o5
      refine s_ret l5.kn (ev_eq (ev_len (ev_var rfl o5)) (ev_var rfl py) rfl) fun H6 v6 s6 o6 => post H6 v6 (sa.trans s6) ?_
      rw [dec_nat, plain_len, decide_eq_true rfl] at o6
      exact o6
end
end Still

set_option Elab.async false
set_option linter.all false
set_option maxRecDepth 100000
set_option maxHeartbeats 4000000
namespace Still
open PySem PySem.Spec PyProof.Rows L2
section
variable {w : World} {K : PySem.W.Frag} {mg : Str → Option Value} {base : Heap}
variable {σ : L2.St} {X Y : AX} {H H1 : Hp} {ta tb tc td te tf tg' : TE} {t u : TS} {D : Ends} {l : Addr} {N N' : Nat} {A B O : Ob}
theorem sorted_eq : ∀ {a b : List Int}, a.Perm b → a.Pairwise (· ≤ ·) → b.Pairwise (· ≤ ·) → a = b
  | [], b, p, _, _ => p.nil_eq
  | x :: a, [], p, _, _ => by have := p.length_eq; simp at this
  | x :: a, y :: b, p, sa, sb => by
    have hx : x ∈ y :: b := p.mem_iff.mp (by simp)
    have hy : y ∈ x :: a := p.mem_iff.mpr (by simp)
    rw [List.pairwise_cons] at sa sb
    have e : x = y := by
      rcases List.mem_cons.mp hx with h | h
      · exact h
      · rcases List.mem_cons.mp hy with g | g
        · exact g.symm
        · have h1 := sb.1 x h
          have h2 := sa.1 y g
          omega
    subst e
    rw [sorted_eq (p.cons_inv) sa.2 sb.2]
theorem ev_sorted {xs : List Int} (hn : xs.length < 64) (h : EvP ta σ X H (oL (fun z : Int => oI z) xs)) : EvP (tCB (rSorted K) (tCons ta tNil)) σ X H (oEx (fun ys : List Int => oL (fun z : Int => oI z) ys) fun ys => ys.Perm xs ∧ ys.Pairwise (· ≤ ·)) := fun Y H1 l Q q =>
  h Y H1 l _ fun H2 v s o => by
    obtain ⟨a, vs, rfl, nx, e, it, bd⟩ := o.its
    have ev := it.flat (f := V.int)
    subst ev
    refine ⟨a, xs, rfl, .inl (.inl e), hn, fun ns p hp hs np => q _ _ (s.trans (same_new np)) ⟨ns, ⟨hp, hs⟩, ?_⟩⟩
    exact oL.mk (notKn (l.kn.same s) np) upd_same (Its.of_flat (f := V.int)) (by rw [hp.length_eq]; exact bd)
theorem ev_neSame {α : Type} [d : Dat α] {R : α → Ob} [r : DRep R] [∀ x, Rep (R x)] {P P' : α → Prop} (hd : d.dp ≤ 64) (he : ∀ x y, P x → P' y → x = y) (ha : EvP ta σ X H (oEx R P)) (hb : EvP tb σ X H (oEx R P')) : EvP (tOp (rNeD K) ta tb) σ X H (oB false) :=
  ev_op ha hb fun Y H1 v u l ⟨x, px, ov⟩ ⟨y, py, ou⟩ Q q => by
    have := he x y px py
    subst this
    exact ⟨_, _, r.dp K Y H1 v x ov, r.dp K Y H1 u x ou, shaped_of hd x, shaped_of hd x, q H1 _ (Same.refl _) (by rw [(d.inj x x).mpr rfl]; rfl)⟩
theorem ev_neCrew {q : Pm} {n : Nat} {tabs : List (List (List (Fq q)))} (ha : EvP ta σ X H (oCrew n tabs)) (hb : EvP tb σ X H (oCrew n tabs)) : EvP (tOp (rNeD K) ta tb) σ X H (oB false) := by
  have hdp : ∀ (Y : AX) (H1 : Hp) (v : V), oCrew n tabs Y H1 v → Dp K H1 v (.tuple [.int q.n, .int n, Dat.enc tabs]) := fun Y H1 v ⟨a, x, y, z, e, na, h, hx, hy, hz⟩ => by
    have hx : x = .int (q.n : Int) := hx
    have hy : y = .int (n : Int) := hy
    subst e hx hy
    exact .tup (.inl (.inl h)) (.cons (.int _) (.cons (.int _) (.cons (DRep.dp (R := fun m : List (List (List (Fq q))) => oTabs m) K Y H1 z tabs hz) .nil)))
  have h1 : PyData.eqv (.tuple [.int q.n, .int n, Dat.enc tabs]) (.tuple [.int q.n, .int n, Dat.enc tabs]) = true := by
    simp only [PyData.eqv, PyData.eqvAll, Bool.and_eq_true, beq_self_eq_true, true_and, and_true]
    exact (Dat.inj tabs tabs).mpr rfl
  have h2 : SeqAt.shaped (.tuple [.int q.n, .int n, Dat.enc tabs]) = true := by
    unfold SeqAt.shaped
    have hl := Dat.lay tabs
    have hd := Dat.dep tabs
    have hd3 : (Dat.enc tabs).depth ≤ 3 := hd
    simp only [PyData.canLay0, PyData.canLayAll0, PyData.depth, PyData.depthAll, Bool.and_eq_true, hl, true_and, and_true]
    exact decide_eq_true (by omega)
  exact ev_op ha hb fun Y H1 v u l ov ou Q q => ⟨_, _, hdp Y H1 v ov, hdp Y H1 u ou, h2, h2, q H1 _ (Same.refl _) (by rw [h1]; rfl)⟩
theorem CrA.tr {q : Pm} {n : Nat} {tabs : List (List (List (Fq q)))} (ok : CrA n tabs) : CrA n (tabs.map (trM n)) := ⟨⟨⟨sq_tr ok.sq, ok.pos, ok.top⟩, ok.bd⟩, ok.six, by rw [List.length_map]; exact ok.few⟩
/-! def law: slots 0=_law_script 1=_law_crew_here 2=_law_p 3=_law_size 4=_law_tables 5=_law_other 6=_law_one 7=_law_two 8=_law_some 9=_law_lain 10=_law_told 11=_law_form_here -/
abbrev N_law : List Str := ["_law_script", "_law_crew_here", "_law_p", "_law_size", "_law_tables", "_law_other", "_law_one", "_law_two", "_law_some", "_law_lain", "_law_told", "_law_form_here"]
theorem sc_law : FnScope N_law ["_law_script"] (defScope (topS 86)) := ⟨rfl, rfl, rfl, by decide +kernel, rfl, by decide +kernel, by decide +kernel⟩
def sp_law (K : PySem.W.Frag) : L2.Sp := mkSp (ι := List Int) (fun i X H vs => a1 (oS K i) X H vs) (fun _ => oB true)
structure PairOk {q : Pm} (n : Nat) (p : Cw q × Cw q) : Prop where
  a : p.1.1 = n
  b : p.2.1 = n
  ca : CrA n p.1.2
  cb : CrA n p.2.2
  e : p.2.2 = p.1.2.map (trM n)
theorem ok_law {f : Addr} {fd : FuncData} (c_law_crew : Ct w K mg base 15 "_law_crew" (sp_law_crew K)) (c_law_turned : Ct w K mg base 15 "_law_turned" sp_law_turned) (c_turned_crew : Ct w K mg base 15 "turned_crew" sp_turned_crew) (c_tower : Ct w K mg base 15 "tower" sp_tower) (c_law_across : Ct w K mg base 15 "_law_across" sp_law_across) (c_law_unit : Ct w K mg base 15 "_law_unit" sp_law_unit) (c_law_is_tower : Ct w K mg base 15 "_law_is_tower" sp_law_is_tower)
    (c_is_tower : Ct w K mg base 15 "is_tower" sp_is_tower) (c_law_sizes : Ct w K mg base 15 "_law_sizes" sp_law_sizes) (c_pairing : Ct w K mg base 15 "pairing" sp_pairing) (T : Tp K mg) (F : FnP K "law" 86 f fd) : FnOk prg w K mg base CX0 16 f fd ["_law_script"] (sp_law K) := by
  refine F.ok sc_law (mkSp_len fun i X H vs h => ?_) fun cdv A outer s H vs Q E hr h => ?_
  · exact a1_len h
  · obtain ⟨xs, X, k, ⟨u1, rfl, h1⟩, post⟩ := h
    dsimp only at h1 post
    have nd := sc_law.nd
    refine ⟨_, PSs.nox (pss_cons (ps_set (i := 1) nd rfl (.inl rfl) (pe_ct c_law_crew hr (by decide) (by rfl) (pa_cons (pv 0) (pa_cons pe_int pa_nil))))
  (pss_cons (ps_asg (pv 1) (pg_tup (by rfl) (pgs_cons (pg_name (i := 2) nd rfl (Or.inr rfl)) (pgs_cons (pg_name (i := 3) nd rfl (Or.inr rfl)) (pgs_cons (pg_name (i := 4) nd rfl (Or.inl rfl)) pgs_nil)))))
  (pss_cons (ps_set (i := 5) nd rfl (.inl rfl) (pe_ct c_law_turned hr (by decide) (by rfl) (pa_cons (pv 1) pa_nil)))
  (pss_cons (ps_if (pt_cmpR (op_neDK K hr.units) (pe_ct c_turned_crew hr (by decide) (by rfl) (pa_cons (pv 1) pa_nil)) (pv 5) (nomark _))
    (pss_one (ps_ret pe_bl)) pss_nil)
  (pss_cons (ps_for PassesOwn.never rfl (pi_listK K (pe_lst (pa_cons (pe_tup (pa_cons (pv 1) (pa_cons (pv 5) pa_nil))) (pa_cons (pe_tup (pa_cons (pv 5) (pa_cons (pv 1) pa_nil))) pa_nil)))) (pg_tup (by rfl) (pgs_cons (pg_name (i := 6) nd rfl (Or.inl rfl)) (pgs_cons (pg_name (i := 7) nd rfl (Or.inl rfl)) pgs_nil)))
    (pss_cons (ps_set (i := 8) nd rfl (.inl rfl) (pe_ct c_tower hr (by decide) (by rfl) (pa_cons (pv 6) pa_nil)))
  (pss_cons (ps_set (i := 9) nd rfl (.inl rfl) (pe_op op_cat (pe_lc (own := [("_law_form_here", 11)]) (g := gName 11) (tt := tYes) rfl nd (pi_listK K (pe_revK K (pe_slice (sl_listK K) (pv 8) po_none (po_some (pe_un un_neg pe_int))))) (blkOk_by (N := N_law) (sc := (defScope (topS 86))) (by decide +kernel)) (fun _ _ _ _ _ => pg_name (i := 11) nd rfl (Or.inl rfl)) (fun _ _ _ _ _ => pts_nil) (fun _ _ _ _ _ => pe_ct c_law_across hr (by decide) (by rfl) (pa_cons (pv 2) (pa_cons (pv 3) (pa_cons (pv 11) pa_nil))))) (pe_lst (pa_cons (pe_ct c_law_unit hr (by decide) (by rfl) (pa_cons (pv 3) pa_nil)) pa_nil))))
  (pss_cons (ps_if (PW.pt (pw_or (pt_not (pt_val (pe_ct c_law_is_tower hr (by decide) (by rfl) (pa_cons (pv 7) (pa_cons (pv 9) pa_nil))))) (pw_or1 (pt_not (pt_val (pe_ct c_is_tower hr (by decide) (by rfl) (pa_cons (pv 7) (pa_cons (pv 9) pa_nil))))))))
    (pss_one (ps_ret pe_bl)) pss_nil)
  (pss_cons (ps_set (i := 10) nd rfl (.inl rfl) (pe_ct c_tower hr (by decide) (by rfl) (pa_cons (pv 7) pa_nil)))
  (pss_cons (ps_if (PW.pt (pw_or (pt_cmpR (op_neDK K hr.units) (pe_ct c_law_sizes hr (by decide) (by rfl) (pa_cons (pv 9) pa_nil)) (pe_revK K (pe_ct c_law_sizes hr (by decide) (by rfl) (pa_cons (pv 8) pa_nil))) (nomark _)) (pw_or1 (pt_cmpR (op_neDK K hr.units) (pe_callB (cr_sortedK K) (by rfl) (T.fr "sorted" (by decide)) (by decide +kernel) (pa_cons (pe_ct c_law_sizes hr (by decide) (by rfl) (pa_cons (pv 10) pa_nil)) pa_nil)) (pe_callB (cr_sortedK K) (by rfl) (T.fr "sorted" (by decide)) (by decide +kernel) (pa_cons (pe_ct c_law_sizes hr (by decide) (by rfl) (pa_cons (pv 8) pa_nil)) pa_nil)) (nomark _)))))
    (pss_one (ps_ret pe_bl)) pss_nil)
  (pss_one (ps_if (pt_cmpR op_ne (pe_callB (call_lenK K) (by rfl) (T.fr "len" (by decide)) PySem.boot_len (pa_cons (pe_ct c_pairing hr (by decide) (by rfl) (pa_cons (pv 7) (pa_cons (pv 10) (pa_cons (pv 9) pa_nil)))) pa_nil)) (pe_callB (call_lenK K) (by rfl) (T.fr "len" (by decide)) PySem.boot_len (pa_cons (pv 8) pa_nil)) (nomark _))
    (pss_one (ps_ret pe_bl)) pss_nil))))))))
  (pss_one (ps_ret pe_bl))))))), ?_⟩
    refine s_set k (ev_law_crew (by omega) (ev_var rfl h1) (ev_nat (n := 0))) fun H1 v1 s1 ⟨⟨q, n, tabs⟩, ok, o1⟩ => ?_
    dsimp only at ok
    have o1 : oCrew n tabs X H1 v1 := o1
    have k1 := k.same s1
    have hn6 := ok.six
    refine s_unpack3 k1 (ev_var rfl o1) fun H2 x y z s2 hx hy hz => ?_
    have hx : x = .int (q.n : Int) := hx
    have hy : y = .int (n : Int) := hy
    have px : ∀ {X H}, oN q.n X H x := fun {_ _} => hx
    have py : ∀ {X H}, oN n X H y := fun {_ _} => hy
    have k2 := k1.same s2
    have o12 := rsm s2 o1
    refine s_set k2 (ev_law_turned ok.toCrOk (ev_var rfl o12)) fun H3 v3 s3 o3 => ?_
    have k3 := k2.same s3
    have o13 := rsm s3 o12
    refine s_if k3 (et_test (ev_neCrew (ev_turned_crew ok.toCrOk (ev_var rfl o13)) (ev_var rfl o3))) (fun hb => by cases hb) fun _ H4 s4 => ?_
    have k4 := k3.same s4
    have o14 : oCw ((n, tabs) : Cw q) X H4 v1 := rsm s4 o13
    have o34 : oCw ((n, tabs.map (trM n)) : Cw q) X H4 v3 := rsm s4 o3
    have s04 := ((s1.trans s2).trans s3).trans s4
    let c1 : Cw q := (n, tabs)
    let c2 : Cw q := (n, tabs.map (trM n))
    have hpairs : ∀ p, p ∈ [(c1, c2), (c2, c1)] → PairOk n p := fun p hp => by
      rcases List.mem_cons.mp hp with rfl | hp
      · exact ⟨rfl, rfl, ok, ok.tr, rfl⟩
      · rw [List.mem_singleton] at hp
        subst hp
        exact ⟨rfl, rfl, ok.tr, ok, (map_tr ok.sq).symm⟩
    refine s_for k4 (ei_list ((en_two (R := fun p : Cw q × Cw q => oP (oCw p.1) (oCw p.2)) (x := (c1, c2)) (y := (c2, c1)) (ev_tup2 (ev_var rfl o14) (ev_var rfl o34)) (ev_tup2 (ev_var rfl o34) (ev_var rfl o14))).ev (by simp))) fun H5 s5 l5 => ?_
    refine ⟨fun i σ1 H6 => (∃ z6 z7 z8 z9 z10, σ1 = [some u1, some v1, some x, some y, some z, some v3, z6, z7, z8, z9, z10, none]) ∧ Same H H6, ⟨⟨none, none, none, none, none, rfl⟩, s04.trans s5⟩, ?_, ?_⟩
    · rintro i p σ1 H6 H7 vp hp l6 ⟨⟨z6, z7, z8, z9, z10, rfl⟩, sa⟩ s7 hvp
      have l7 := l6.same s7
      have sa7 := sa.trans s7
      obtain ⟨a, b, ha, hb, tg⟩ := tg2 (K := K) (i := 6) (j := 7) (σ := [some u1, some v1, some x, some y, some z, some v3, z6, z7, z8, z9, z10, none]) hvp
      obtain ⟨⟨m1, t1⟩, ⟨m2, t2⟩⟩ := p
      obtain ⟨e1, e2, ca, cb, et⟩ := hpairs _ (List.mem_of_getElem? hp)
      dsimp only at e1 e2 ca cb et ha hb
      subst e1 e2
      have ha : oCrew m2 t1 X H7 a := ha
      have hb : oCrew m2 t2 X H7 b := hb
      refine tg _ ?_
      refine s_set l7.kn (ev_tower ca (ev_var rfl ha)) fun H8 v8 s8 ⟨fs, tw, o8⟩ => ?_
      have l8 := l7.same s8
      have hne := tw_ne ca.pos tw
      have hfl := oL_len o8
      have htd := tw_dual ca.pos ca.sq tw
      rw [← et] at htd
      obtain ⟨twl, hsz⟩ := htd
      have hll := lain_len (n := m2) fs hne
      have hcf := cf_len ca.pos ca.sq Lo.nil tw
      rw [plain_len] at hcf
      have hdl : fs.dropLast.reverse.length ≤ 5000 := by rw [List.length_reverse, List.length_dropLast]; omega
      refine s_set l8.kn ((en_cat (R := fun m : List (List (Fq q)) => oRows m) ((en_map (R' := fun m : List (List (Fq q)) => oRows m) (acrM m2) (ei_list ((ev_rev (R := fun m : List (List (Fq q)) => oRows m) (((en_slice (R := fun m : List (List (Fq q)) => oRows m) (ev_var rfl o8) eo_none (eo_some (ev_neg ev_int))).eq (cut_last fs)).ev (by rw [List.length_dropLast]; omega))).ev hdl)) hdl fun f hf Y H9 v9 l9 rv => ⟨_, tg1, rfl, ?_⟩).ev (by rw [List.length_map]; exact hdl)) ((en_one (R := fun m : List (List (Fq q)) => oRows m) (ev_law_unit (q := q) (n := m2) (by omega) (ev_var rfl py))).ev (by simp))).ev (by show (lainM m2 fs).length ≤ 5000; omega)) fun H9 v9 s9 o9 => ?_
      · obtain ⟨p, hp, rfl⟩ := cf_mem ca.pos ca.sq Lo.nil tw ((List.dropLast_sublist _).subset (List.mem_reverse.mp hf))
        exact ev_law_across ⟨hp.u.toPre, by omega⟩ (ev_var rfl px) (ev_var rfl py) (ev_var rfl rv)
      have o9 : oTabs (lainM m2 fs) X H9 v9 := o9
      have l9 := l8.same s9
      have hb9 := rsm (s8.trans s9) hb
      have twk : TwOk m2 t2 (lainM m2 fs) := ⟨cb, twl⟩
      refine s_if l9.kn (et_or (et_not (et_B (ev_law_is_tower twk (ev_var rfl hb9) (ev_var rfl o9)))) fun _ => et_not (et_B (ev_is_tower twk (ev_var rfl hb9) (ev_var rfl o9)))) (fun hb => by simp at hb) fun _ H10 s10 => ?_
      have l10 := l9.same s10
      have hb10 := rsm s10 hb9
      refine s_set l10.kn (ev_tower cb (ev_var rfl hb10)) fun H11 v11 s11 ⟨gs, twg, o11⟩ => ?_
      have l11 := l10.same s11
      have o911 := rsm (s10.trans s11) o9
      have o811 := rsm ((s9.trans s10).trans s11) o8
      have hb11 := rsm s11 hb10
      have hcg := cf_len cb.pos cb.sq Lo.nil twg
      rw [plain_len] at hcg
      have hper := tw_sizes cb.pos cb.sq twg twl
      have hgl : gs.length = fs.length := by
        have := hper.length_eq
        rw [sz_len, sz_len, hll] at this
        exact this
      refine s_if l11.kn (et_or (a := false) (b := false) (et_test (ev_neSame (R := fun z : List Int => oL (fun z : Int => oI z) z) (P := fun z => z = szI 0 (lainM m2 fs)) (P' := fun z => z = (szI 0 fs).reverse) (by decide : (1 : Nat) ≤ 64) (fun x y hx hy => by rw [hx, hy, hsz]) ((ev_law_sizes (ev_var rfl o911)).imp fun _ _ _ _ o => ⟨_, rfl, o⟩) (((ev_rev (R := fun z : Int => oI z) (ev_law_sizes (ev_var rfl o811))).ev (by rw [List.length_reverse, sz_len]; exact hfl)).imp fun _ _ _ _ o => ⟨_, rfl, o⟩))) fun _ =>
        et_test (ev_neSame (R := fun z : List Int => oL (fun z : Int => oI z) z) (by decide : (1 : Nat) ≤ 64) (fun x y hx hy => sorted_eq ((hx.1.trans (hper.trans (by rw [hsz]; exact List.reverse_perm _))).trans hy.1.symm) hx.2 hy.2) (ev_sorted (by rw [sz_len]; omega) (ev_law_sizes (ev_var rfl o11))) (ev_sorted (by rw [sz_len]; omega) (ev_law_sizes (ev_var rfl o811))))) (fun hb => by cases hb) fun _ H12 s12 => ?_
      have l12 := l11.same s12
      refine s_if1 l12.kn (et_test (ev_ne (ev_len (ev_pairing ⟨cb, twg, twl⟩ (ev_var rfl (rsm s12 hb11)) (ev_var rfl (rsm s12 o11)) (ev_var rfl (rsm s12 o911)))) (ev_len (ev_var rfl (rsm s12 o811))) rfl)) (fun hb => by
        rw [dec_nat, List.length_replicate, decide_eq_true hgl] at hb
        simp at hb) fun _ H13 s13 => ⟨⟨⟨_, _, _, _, _, rfl⟩, (((sa7.trans s8).trans s9).trans s10).trans ((s11.trans s12).trans s13)⟩, l12.same s13⟩
    · rintro σ1 H6 l6 ⟨⟨z6, z7, z8, z9, z10, rfl⟩, sa⟩
      exact s_ret l6.kn ev_c fun H7 v7 s7 o7 => post H7 v7 (sa.trans s7) o7
end
end Still

set_option Elab.async false
set_option linter.all false
set_option maxRecDepth 100000
set_option maxHeartbeats 4000000
namespace Still
open PySem PySem.Spec PyProof.Rows L2
theorem law_all {w : World} {K : PySem.W.Frag} {mg : Str → Option Value} {base : Heap} {f : Addr} {fd : FuncData} (T : Tp K mg) (F : FnP K "law" 86 f fd) : FnOk prg w K mg base CX0 16 f fd ["_law_script"] (sp_law K) := by
  have x_contrary_rest : Ct w K mg base 1 "contrary_rest" sp_contrary_rest := c_contrary_rest  T
  have x_lead : Ct w K mg base 1 "lead" sp_lead := c_lead  T
  have x_scaled : Ct w K mg base 1 "scaled" sp_scaled := c_scaled  T
  have x_taken : Ct w K mg base 1 "taken" sp_taken := c_taken  T
  have x_left_of : Ct w K mg base 3 "left_of" sp_left_of := c_left_of (x_taken.at (by decide)) (x_lead.at (by decide)) T
  have x_has : Ct w K mg base 4 "has" sp_has := c_has (x_left_of.at (by decide)) (x_lead.at (by decide)) T
  have x_mixed : Ct w K mg base 3 "mixed" sp_mixed := c_mixed (x_taken.at (by decide)) T
  have x_led : Ct w K mg base 4 "led" sp_led := c_led (x_mixed.at (by decide)) T
  have x_with_row : Ct w K mg base 4 "with_row" sp_with_row := c_with_row (x_left_of.at (by decide)) (x_lead.at (by decide)) (x_scaled.at (by decide)) (x_contrary_rest.at (by decide)) (x_taken.at (by decide)) T
  have x_low : Ct w K mg base 5 "low" sp_low := c_low (x_with_row.at (by decide)) T
  have x_is_whole : Ct w K mg base 1 "is_whole" sp_is_whole := c_is_whole  T
  have x_is_row : Ct w K mg base 2 "is_row" sp_is_row := c_is_row (x_is_whole.at (by decide)) T
  have x_is_low : Ct w K mg base 6 "is_low" sp_is_low := c_is_low (x_is_row.at (by decide)) (x_low.at (by decide)) T
  have x_turned : Ct w K mg base 1 "turned" sp_turned := c_turned  T
  have x_plain : Ct w K mg base 1 "plain" sp_plain := c_plain  T
  have x_many_rows : Ct w K mg base 1 "many_rows" sp_many_rows := c_many_rows  T
  have x_turned_crew : Ct w K mg base 2 "turned_crew" sp_turned_crew := c_turned_crew (x_turned.at (by decide)) T
  have x_is_still : Ct w K mg base 5 "is_still" sp_is_still := c_is_still (x_has.at (by decide)) (x_led.at (by decide)) T
  have x_across : Ct w K mg base 6 "across" sp_across := c_across (x_lead.at (by decide)) (x_low.at (by decide)) T
  have x_spin : Ct w K mg base 6 "spin" sp_spin := c_spin (x_low.at (by decide)) (x_led.at (by decide)) (x_has.at (by decide)) (x_with_row.at (by decide)) T
  have x_row_numbered : Ct w K mg base 1 "row_numbered" sp_row_numbered := c_row_numbered  T
  have x_first_rows : Ct w K mg base 2 "first_rows" sp_first_rows := c_first_rows (x_many_rows.at (by decide)) (x_row_numbered.at (by decide)) T
  have x_still_span : Ct w K mg base 7 "still_span" sp_still_span := c_still_span (x_first_rows.at (by decide)) (x_spin.at (by decide)) T
  have x_is_tight : Ct w K mg base 8 "is_tight" sp_is_tight := c_is_tight (x_still_span.at (by decide)) T
  have x_look_fit : Ct w K mg base 1 "look_fit" sp_look_fit := c_look_fit  T
  have x_asked : Ct w K mg base 1 "asked" sp_asked := c_asked  T
  have x_asked_rows : Ct w K mg base 2 "asked_rows" sp_asked_rows := c_asked_rows (x_asked.at (by decide)) T
  have x_as_tables : Ct w K mg base 1 "as_tables" sp_as_tables := c_as_tables  T
  have x_base : Ct w K mg base 7 "base" sp_base := c_base (x_look_fit.at (by decide)) (x_low.at (by decide)) (x_asked_rows.at (by decide)) (x_across.at (by decide)) (x_as_tables.at (by decide)) T
  have x_first_alike : Ct w K mg base 8 "first_alike" sp_first_alike := c_first_alike (x_base.at (by decide)) T
  have x_is_within : Ct w K mg base 5 "is_within" sp_is_within := c_is_within (x_has.at (by decide)) T
  have x_rows_between : Ct w K mg base 2 "rows_between" sp_rows_between := c_rows_between (x_lead.at (by decide)) T
  have x_written : Ct w K mg base 2 "written" sp_written := c_written (x_lead.at (by decide)) T
  have x_part_between : Ct w K mg base 5 "part_between" sp_part_between := c_part_between (x_rows_between.at (by decide)) (x_led.at (by decide)) (x_written.at (by decide)) T
  have x_lifted : Ct w K mg base 1 "lifted" sp_lifted := c_lifted  T
  have x_copied : Ct w K mg base 1 "copied" sp_copied := c_copied  T
  have x_steps_between : Ct w K mg base 14 "steps_between" (sp_steps_between 6) := c_steps_between (x_part_between.at (by decide)) (x_still_span.at (by decide)) (x_rows_between.at (by decide)) (x_low.at (by decide)) (x_lifted.at (by decide)) T 6
  have x_tower : Ct w K mg base 15 "tower" sp_tower := c_tower (x_steps_between.at (by decide)) (x_plain.at (by decide)) (x_copied.at (by decide)) T
  have x_parts_of : Ct w K mg base 6 "parts_of" sp_parts_of := c_parts_of (x_part_between.at (by decide)) T
  have x_is_form_of : Ct w K mg base 7 "is_form_of" sp_is_form_of := c_is_form_of (x_is_low.at (by decide)) T
  have x_is_tower : Ct w K mg base 9 "is_tower" sp_is_tower := c_is_tower (x_is_form_of.at (by decide)) (x_plain.at (by decide)) (x_is_still.at (by decide)) (x_is_within.at (by decide)) (x_is_tight.at (by decide)) (x_parts_of.at (by decide)) T
  have x_paired : Ct w K mg base 9 "paired" sp_paired := c_paired (x_first_alike.at (by decide)) T
  have x_pairing : Ct w K mg base 10 "pairing" sp_pairing := c_pairing (x_is_tower.at (by decide)) (x_parts_of.at (by decide)) (x_paired.at (by decide)) T
  have x_law_cell : Ct w K mg base 1 "_law_cell" (sp_law_cell K) := c_law_cell  T
  have x_law_bag : Ct w K mg base 2 "_law_bag" (sp_law_bag K) := c_law_bag (x_law_cell.at (by decide)) T
  have x_law_take : Ct w K mg base 1 "_law_take" sp_law_take := c_law_take  T
  have x_law_fit : Ct w K mg base 2 "_law_fit" sp_law_fit := c_law_fit (x_law_take.at (by decide)) T
  have x_law_number : Ct w K mg base 2 "_law_number" sp_law_number := c_law_number (x_law_take.at (by decide)) T
  have x_law_added : Ct w K mg base 1 "_law_added" sp_law_added := c_law_added  T
  have x_law_led : Ct w K mg base 2 "_law_led" sp_law_led := c_law_led (x_law_added.at (by decide)) T
  have x_law_product : Ct w K mg base 3 "_law_product" sp_law_product := c_law_product (x_law_led.at (by decide)) T
  have x_law_doubled : Ct w K mg base 1 "_law_doubled" sp_law_doubled := c_law_doubled  T
  have x_law_back : Ct w K mg base 1 "_law_back" sp_law_back := c_law_back  T
  have x_law_less : Ct w K mg base 1 "_law_less" sp_law_less := c_law_less  T
  have x_law_in : Ct w K mg base 2 "_law_in" sp_law_in := c_law_in (x_law_less.at (by decide)) T
  have x_law_form : Ct w K mg base 2 "_law_form" sp_law_form := c_law_form (x_law_back.at (by decide)) (x_law_less.at (by decide)) T
  have x_law_drawn_table : Ct w K mg base 4 "_law_drawn_table" sp_law_drawn_table := c_law_drawn_table (x_law_number.at (by decide)) (x_law_doubled.at (by decide)) (x_law_product.at (by decide)) (x_law_added.at (by decide)) T
  have x_law_stepped : Ct w K mg base 2 "_law_stepped" sp_law_stepped := c_law_stepped (x_law_added.at (by decide)) T
  have x_law_crew : Ct w K mg base 5 "_law_crew" (sp_law_crew K) := c_law_crew (x_law_bag.at (by decide)) (x_law_fit.at (by decide)) (x_law_take.at (by decide)) (x_law_drawn_table.at (by decide)) (x_law_stepped.at (by decide)) T
  have x_law_whole : Ct w K mg base 1 "_law_whole" sp_law_whole := c_law_whole  T
  have x_law_rows_like : Ct w K mg base 2 "_law_rows_like" sp_law_rows_like := c_law_rows_like (x_law_whole.at (by decide)) T
  have x_law_spin : Ct w K mg base 3 "_law_spin" sp_law_spin := c_law_spin (x_law_form.at (by decide)) (x_law_led.at (by decide)) (x_law_in.at (by decide)) T
  have x_law_unit : Ct w K mg base 1 "_law_unit" sp_law_unit := c_law_unit  T
  have x_law_lead : Ct w K mg base 1 "_law_lead" sp_law_lead := c_law_lead  T
  have x_law_is_still : Ct w K mg base 3 "_law_is_still" sp_law_is_still := c_law_is_still (x_law_in.at (by decide)) (x_law_led.at (by decide)) T
  have x_law_is_form : Ct w K mg base 3 "_law_is_form" sp_law_is_form := c_law_is_form (x_law_rows_like.at (by decide)) (x_law_form.at (by decide)) T
  have x_law_lines : Ct w K mg base 1 "_law_lines" sp_law_lines := c_law_lines  T
  have x_law_is_tight : Ct w K mg base 4 "_law_is_tight" sp_law_is_tight := c_law_is_tight (x_law_lines.at (by decide)) (x_law_spin.at (by decide)) T
  have x_law_across : Ct w K mg base 3 "_law_across" sp_law_across := c_law_across (x_law_form.at (by decide)) T
  have x_law_sizes : Ct w K mg base 1 "_law_sizes" sp_law_sizes := c_law_sizes  T
  have x_law_turned : Ct w K mg base 1 "_law_turned" sp_law_turned := c_law_turned  T
  have x_law_part : Ct w K mg base 3 "_law_part" sp_law_part := c_law_part (x_law_lead.at (by decide)) (x_law_led.at (by decide)) (x_law_less.at (by decide)) T
  have x_law_is_tower : Ct w K mg base 5 "_law_is_tower" sp_law_is_tower := c_law_is_tower (x_law_is_form.at (by decide)) (x_law_is_still.at (by decide)) (x_law_in.at (by decide)) (x_law_part.at (by decide)) (x_law_is_tight.at (by decide)) T
  exact ok_law (x_law_crew.at (by decide)) (x_law_turned.at (by decide)) (x_turned_crew.at (by decide)) (x_tower.at (by decide)) (x_law_across.at (by decide)) (x_law_unit.at (by decide)) (x_law_is_tower.at (by decide)) (x_is_tower.at (by decide)) (x_law_sizes.at (by decide)) (x_pairing.at (by decide)) T F
theorem says_fact {K : PySem.W.Frag} (c : He.SaysD faD fnD K) {f : He.Fa} (h : f ∈ faD) : f.ok K = true := by
  obtain ⟨i, hi⟩ := List.getElem?_of_mem h
  exact c.fact i hi
theorem tp_of {K : PySem.W.Frag} {h : Heap} {mg : Str → Option Value} (X : K.In h) (G : h.Ns mainGlobals mg) (c : He.SaysD faD fnD K) : Tp K mg where
  fn p hp := by
    obtain ⟨i, hi⟩ := List.getElem?_of_mem hp
    have hd : fnD[i]? = some (mkD p) := by
      unfold fnD
      rw [List.getElem?_map, hi]
      rfl
    obtain ⟨fd, F⟩ := c.def_ i hd
    exact ⟨_, fd, F, He.glo_ok X G (says_fact c (f := .glo p.1) (List.mem_cons_of_mem _ (List.mem_append_right _ (List.mem_map_of_mem (f := fun p : Str × Nat => He.Fa.glo p.1) hp))))⟩
  fr x hx := He.free_ok X G (says_fact c (f := .free x) (List.mem_cons_of_mem _ (List.mem_append_left _ (List.mem_map_of_mem (f := He.Fa.free) hx))))
  longest := He.int_ok X G (says_fact c (f := .int "LONGEST" 36) List.mem_cons_self)
theorem fin_facts {w : World} {K : PySem.W.Frag} {h : Heap} {mg : Str → Option Value} {f : Addr} (X : K.In h) (G : h.Ns mainGlobals mg) (hfa : mg ("law" : Str) = some (.ref f)) (c : He.SaysD faD fnD K) :
    ∃ fd : FuncData, (∀ (s : Shared) (v : Value), BindsTo s fd ⟨[v], []⟩ [("_law_script", v)]) ∧ ∀ base : Heap, K.In base → base.Ns mainGlobals mg → FnOk prg w K mg base CX0 16 f fd ["_law_script"] (sp_law K) := by
  have T := tp_of X G c
  obtain ⟨f2, fd, F, hm⟩ := T.fn ("law", 86) (by decide)
  have e : f = f2 := by
    have := hfa.symm.trans hm
    injection this with this
    injection this
  subst e
  have b := FunD.bindsA (ps := ["_law_script"]) F fun _ _ _ _ _ _ us hl => match us, hl with | [_], _ => rfl
  exact ⟨fd, fun s v => b s [v] rfl, fun base _ _ => law_all T F⟩
end Still
open PySem PySem.W PySem.Calls PyProof.Rows
theorem PySem.Challenge.cw_stillspans_k46_whole_turned_towers_holds : PySem.Challenge.rw_stillspans_k46_whole_turned_towers.Holds := by
  w_on; o_law
  refine HandSHeadRun.head_any (r := OpenLaw.row PySem.Challenge.rw_stillspans_k46_whole_turned_towers) (q := view (OpenLaw.row PySem.Challenge.rw_stillspans_k46_whole_turned_towers).prog [86]) (H := Still.hk) (ob := Still.ob) (M := 4000) (loose := Still.loose) (d := HandSHeadRun.topDef (OpenLaw.row PySem.Challenge.rw_stillspans_k46_whole_turned_towers).prog 86) (kwd := []) Still.ob_eq
    (by kernel_rfl) (fun s => by kernel_rfl) Still.run (by kernel_rfl) (by kernel_rfl) (by kernel_rfl) (by rfl) (by first | assumption | decide +kernel) (by decide +kernel) ⟨rfl, rfl, rfl, rfl, rfl, by decide +kernel⟩ ?hw ?hc
  case hw => w_witness2
  case hc =>
    refine L2.walk_ofE (l := PySem.Challenge.rw_stillspans_k46_whole_turned_towers) (n := 63) (k := 16) (x := "_law_script") (CX := L2.CX0) rfl (by decide) (by kernel_rfl) ⟨rfl, by decide, by decide⟩ ?F (fun _ _ _ _ z => z)
    intro w mg fa h Y G hmg0
    obtain ⟨K, KX, c⟩ := Y
    have hmg : mg ("law" : PySem.Str) = some (.ref fa) := by
      have e : (HandSHeadRun.topDef (OpenLaw.row PySem.Challenge.rw_stillspans_k46_whole_turned_towers).prog 86).name = ("law" : PySem.Str) := by kernel_rfl
      rw [← e]
      exact hmg0
    obtain ⟨fd, hb, hF⟩ := Still.fin_facts (w := w) KX G hmg c
    refine ⟨K, fd, Still.sp_law K, KX, hb, fun H a ns hl _ hS => ⟨ns, fun _ => False, Still.kn0, ⟨.ref a, rfl, a, rfl, Nat.le_trans hl (by decide), hS.imp (fun z => ⟨fun z => z, z⟩) id⟩, fun H1 v _ o => o⟩, hF⟩

