import PyProof.Rows.All
import Wide.All
import OpenK.AllK
import Wide.FinOn
import Lean
import PySem.Challenge.RW_sx_r026_1
set_option maxRecDepth 100000
set_option maxHeartbeats 8000000
set_option genSizeOfSpec false
set_option bootstrap.genMatcherCode false
set_option compiler.extract_closed false
set_option genSizeOf false
set_option linter.unusedVariables false
set_option linter.unusedSimpArgs false
set_option linter.constructorNameAsVariable false
set_option linter.unusedSectionVars false
set_option Elab.async false
namespace Bd
theorem wk {a k m : Nat} (h : a ≤ k) (q : Nat.ble k m = true) : a ≤ m := Nat.le_trans h (Nat.le_of_ble_eq_true q)
theorem wl {a k m : Nat} (h : a ≤ k) (q : Nat.ble (k + 1) m = true) : a < m := Nat.le_trans (Nat.succ_le_succ h) (Nat.le_of_ble_eq_true q)
theorem ll {a k m : Nat} (h : a < k) (q : Nat.ble k m = true) : a < m := Nat.le_trans h (Nat.le_of_ble_eq_true q)
theorem wkc {a k c m : Nat} (h : a ≤ k) (q : Nat.ble (k + c) m = true) : a + c ≤ m := Nat.le_trans (Nat.add_le_add_right h c) (Nat.le_of_ble_eq_true q)
theorem wkn {a k c m n : Nat} (h : a ≤ k) (g : m ≤ n) (q : Nat.ble (k + c) m = true) : a + c ≤ n := Nat.le_trans (Nat.add_le_add_right h c) (Nat.le_trans (Nat.le_of_ble_eq_true q) g)
theorem wkd {a k c d m n : Nat} (h : a ≤ k) (g : m ≤ n) (q : Nat.ble (k + c + d) m = true) : a + c + d ≤ n := Nat.le_trans (Nat.add_le_add_right (Nat.add_le_add_right h c) d) (Nat.le_trans (Nat.le_of_ble_eq_true q) g)
theorem fn {c k m n : Nat} (g : m ≤ n + k) (q : Nat.ble (c + k) m = true) : c ≤ n := Nat.le_of_add_le_add_right (Nat.le_trans (Nat.le_of_ble_eq_true q) g)
theorem sm {a b k l m : Nat} (h : a ≤ k) (g : b ≤ l) (q : Nat.ble (k + l) m = true) : a + b ≤ m := Nat.le_trans (Nat.add_le_add h g) (Nat.le_of_ble_eq_true q)
theorem mx {a b c : Nat} (h : a ≤ c) (k : b ≤ c) : max a b ≤ c := Nat.max_le.mpr ⟨h, k⟩
theorem sc {a b c : Nat} (h : max a b ≤ c) : max a b + 1 ≤ c + 1 := Nat.succ_le_succ h
theorem l1 {a b c : Nat} (h : max a b ≤ c) : a ≤ c := Nat.le_trans (Nat.le_max_left a b) h
theorem l2 {a b c : Nat} (h : max a b ≤ c) : b ≤ c := Nat.le_trans (Nat.le_max_right a b) h
theorem m1 {a b c : Nat} (h : max a b + 1 ≤ c) : a ≤ c := l1 (Nat.le_of_succ_le h)
theorem m2 {a b c : Nat} (h : max a b + 1 ≤ c) : b ≤ c := l2 (Nat.le_of_succ_le h)
theorem w1 {a b c m : Nat} (h : max a b + 1 ≤ c) (q : Nat.ble c m = true) : a ≤ m := wk (m1 h) q
theorem w2 {a b c m : Nat} (h : max a b + 1 ≤ c) (q : Nat.ble c m = true) : b ≤ m := wk (m2 h) q
theorem n1 {a b c : Nat} (h : max a b ≤ c) : a ≤ c + 1 := Nat.le_succ_of_le (l1 h)
theorem n2 {a b c : Nat} (h : max a b ≤ c) : b ≤ c + 1 := Nat.le_succ_of_le (l2 h)
theorem f0 {a c n : Nat} (h : a + 1 + c ≤ n + 1) : a + c ≤ n := by rw [Nat.add_right_comm] at h; exact Nat.le_of_succ_le_succ h
theorem f1 {a b c n : Nat} (h : max a b + 1 + c ≤ n + 1) : a + c ≤ n := Nat.le_trans (Nat.add_le_add_right (Nat.le_max_left a b) c) (f0 h)
theorem f2 {a b c n : Nat} (h : max a b + 1 + c ≤ n + 1) : b + c ≤ n := Nat.le_trans (Nat.add_le_add_right (Nat.le_max_right a b) c) (f0 h)
theorem g1 {a b c d n : Nat} (h : max a b + 1 + d + c ≤ n + 1) : a + d + c ≤ n := by rw [Nat.add_assoc] at *; exact f1 h
theorem g2 {a b c d n : Nat} (h : max a b + 1 + d + c ≤ n + 1) : b + d + c ≤ n := by rw [Nat.add_assoc] at *; exact f2 h
theorem s1 {a b c k : Nat} (h : c + (max a b + 1) ≤ k) : c + a ≤ k := Nat.le_trans (Nat.add_le_add_left (Nat.le_succ_of_le (Nat.le_max_left a b)) c) h
theorem s2 {a b c k : Nat} (h : c + (max a b + 1) ≤ k) : c + b ≤ k := Nat.le_trans (Nat.add_le_add_left (Nat.le_succ_of_le (Nat.le_max_right a b)) c) h
theorem s3 {a b c k : Nat} (h : c + (max a b + 1) ≤ k) : c + 1 + b ≤ k := Nat.le_trans (by rw [Nat.add_assoc, Nat.add_comm 1 b]; exact Nat.add_le_add_left (Nat.succ_le_succ (Nat.le_max_right a b)) c) h
theorem i0 {a b x y : Nat} (h : x ≤ a) (g : y ≤ b) : max x y + 1 ≤ max a b + 1 := Nat.succ_le_succ (mx (Nat.le_trans h (Nat.le_max_left a b)) (Nat.le_trans g (Nat.le_max_right a b)))
theorem i1 {a b y : Nat} (g : y ≤ b) : max a y + 1 ≤ max a b + 1 := i0 (Nat.le_refl a) g
theorem id {a b x y d : Nat} (h : x ≤ a + d) (g : y ≤ b + d) : max x y + 1 ≤ max a b + 1 + d := by
 have h1 := Nat.le_max_left a b; have h2 := Nat.le_max_right a b; have : max x y ≤ max a b + d := mx (by lia) (by lia); lia
theorem iz {a b x y d : Nat} (h : x ≤ a + d) (g : y ≤ b + d) : max 0 (max x (max y 0)) + 1 ≤ max a b + 1 + d := by
 rw [Nat.zero_max, Nat.max_zero]; exact id h g
theorem iw {a b x y d : Nat} (h : x ≤ a + d) (g : y ≤ b + (d + 1)) : max 0 (max x (max y 0)) + 1 ≤ max a b + 1 + (d + 1) := iz (Nat.le_succ_of_le h) g
theorem pm {a b x y m : Nat} (h : x ≤ m + a) (g : y ≤ m + b) : max x y ≤ m + (max a b + 1) := by
 have h1 := Nat.le_max_left a b; have h2 := Nat.le_max_right a b; exact mx (by lia) (by lia)
theorem pr1 {n k : Nat} (h : k + 1 ≤ n) : n = n - 1 + 1 := (Nat.sub_add_cancel (Nat.le_trans (Nat.le_add_left 1 k) h)).symm
theorem pr2 {n k : Nat} (h : k + 2 ≤ n) : n = n - 2 + 2 := (Nat.sub_add_cancel (Nat.le_trans (Nat.le_add_left 2 k) h)).symm
theorem fm {a k : Int} {i : Nat} (h : a.fmod k = ↑i) (q : (decide (0 < k) && decide (k ≤ 1000)) = true) : i < 1000 := by
 rw [Bool.and_eq_true, decide_eq_true_iff, decide_eq_true_iff] at q
 have := Int.fmod_lt_of_pos a q.1
 rw [h] at this
 exact Int.ofNat_lt.mp (Int.lt_of_lt_of_le this q.2)
theorem z0 {a k : Nat} (h : a = 0) : a ≤ k := h ▸ Nat.zero_le k
theorem ws {a k c m : Nat} (h : a ≤ k) (q : Nat.ble (k + c + 1) m = true) : a + c < m := Nat.le_trans (Nat.succ_le_succ (Nat.add_le_add_right h c)) (Nat.le_of_ble_eq_true q)
theorem mk {M k : Nat} : M < k + (M + 1 - k) := by rw [Nat.add_comm]; exact Nat.le_add_of_sub_le (Nat.le_refl _)
theorem bb {b d n : Nat} (h : b + d + 6 ≤ n) : b + 3 ≤ n := Nat.le_trans (Nat.add_le_add (Nat.le_add_right b d) (Nat.le_of_ble_eq_true rfl)) h
theorem pa {x m t b : Nat} (h : x ≤ m + 1 + b) : x ≤ m + (max t b + 1) := Nat.le_trans h (by rw [Nat.add_assoc, Nat.add_comm 1 b]; exact Nat.add_le_add_left (Nat.succ_le_succ (Nat.le_max_right t b)) m)
theorem tr {x y o f a : Nat} (h : x ≤ o + f) (g : y ≤ x + a) : y ≤ o + (f + a) := Nat.le_trans g (by rw [← Nat.add_assoc]; exact Nat.add_le_add_right h a)
theorem ov {x o f a k : Nat} (h : o + (f + a) ≤ k) (g : x ≤ o + f) : x + a ≤ k := Nat.le_trans (tr g (Nat.le_refl _)) h
theorem cw {o v c r k : Nat} (h : o + c * (r + 1) ≤ k) (g : v ≤ c) : o + v + c * r ≤ k := Nat.le_trans (by rw [Nat.mul_succ, Nat.add_assoc, Nat.add_comm v]; exact Nat.add_le_add_left (Nat.add_le_add_left g _) o) h
theorem cx {x o v c r k : Nat} (h : o + c * (r + 1) ≤ k) (g : x ≤ o + v) (i : v ≤ c) : x + c * r ≤ k := Nat.le_trans (Nat.add_le_add_right g _) (cw h i)
theorem cy {o v c r k m : Nat} (h : o + c * (r + 1) ≤ k) (g : v ≤ c) (q : Nat.ble k m = true) : o + v ≤ m := wk (Nat.le_trans (Nat.le_add_right _ _) (cw h g)) q
theorem lw {c m n : Nat} (g : m ≤ n) (q : Nat.ble c m = true) : c ≤ n := Nat.le_trans (Nat.le_of_ble_eq_true q) g
theorem t1 {x h c k m : Nat} (a : x ≤ h + c) (b : h ≤ k) (q : Nat.ble (k + c) m = true) : x ≤ m := Nat.le_trans a (wkc b q)
theorem t2 {x h c k d m : Nat} (a : x ≤ h + c) (b : h ≤ k) (q : Nat.ble (k + c + d) m = true) : x + d ≤ m := Nat.le_trans (Nat.add_le_add_right (Nat.le_trans a (Nat.add_le_add_right b c)) d) (Nat.le_of_ble_eq_true q)
theorem t3 {x h c k d m n : Nat} (a : x ≤ h + c) (b : h ≤ k) (g : m ≤ n) (q : Nat.ble (k + c + d) m = true) : x + d ≤ n := Nat.le_trans (Nat.add_le_add_right (Nat.le_trans a (Nat.add_le_add_right b c)) d) (lw g q)
theorem sb {a c d n : Nat} (h : a + c ≤ n + 1) (q : Nat.ble (d + 1) c = true) : a + d ≤ n := Nat.le_of_succ_le_succ (Nat.le_trans (Nat.add_le_add_left (Nat.le_of_ble_eq_true q) a) h)
theorem s4 {a b c k l m n : Nat} (h : a ≤ k) (g : b ≤ l) (i : c ≤ m) (q : Nat.ble (k + l + m) n = true) : a + b + c ≤ n := Nat.le_trans (Nat.add_le_add (Nat.add_le_add h g) i) (Nat.le_of_ble_eq_true q)
theorem ms {m k a : Nat} (h : m + a ≤ 800) : m + 1 - k < 900 := Nat.lt_of_le_of_lt (Nat.sub_le _ _) (ws (Nat.le_trans (Nat.le_add_right _ _) h) rfl)
theorem kk {k b m a : Nat} (h : max k b ≤ m) (g : m + a ≤ 800) : k + 900 ≤ 2000 := wkc (Nat.le_trans (l1 h) (Nat.le_trans (Nat.le_add_right _ _) g)) rfl
theorem tc {f a c d k m : Nat} (h : max f a + 1 ≤ k) (g : max c d + 1 ≤ f) (q : Nat.ble k m = true) : c ≤ m := wk (Nat.le_trans (m1 g) (m1 h)) q
theorem td {f x a b : Nat} (g : max a b + 1 ≤ f) : b ≤ max f x + 1 := Nat.le_succ_of_le (Nat.le_trans (m2 g) (Nat.le_max_left _ _))
theorem il {i p t b k : Nat} (h : i ≤ p) (g : p + (max t b + 1) ≤ k) : i + 1 + b ≤ k := Nat.le_trans (Nat.add_le_add_right (Nat.add_le_add_right h 1) b) (s3 g)
theorem im {i p t b k : Nat} (h : i ≤ p) (g : p + (max t b + 1) ≤ k) : i + b ≤ k := Nat.le_trans (Nat.add_le_add_right h b) (s2 g)
theorem ib {p t b k m : Nat} (g : p + (max t b + 1) ≤ k) (q : Nat.ble k m = true) : b ≤ m := wk (Nat.le_trans (Nat.le_add_left _ _) (s2 g)) q
theorem m12 {a b c k : Nat} (h : max a (max b c + 1) + 1 ≤ k) : b ≤ k := m1 (m2 h)
theorem m22 {a b c k : Nat} (h : max a (max b c + 1) + 1 ≤ k) : c ≤ k := m2 (m2 h)
theorem m01 {a b c k : Nat} (h : max (max a b + 1) c + 1 ≤ k) : a ≤ k := m1 (m1 h)
theorem m02 {a b c k : Nat} (h : max (max a b + 1) c + 1 ≤ k) : b ≤ k := m2 (m1 h)
theorem ix {a b y d : Nat} (g : y ≤ b + d) : max a y + 1 ≤ max a b + 1 + d := id (Nat.le_add_right _ _) g
theorem ms0 {m k : Nat} (h : m ≤ 800) : m + 1 - k < 900 := ms (a := 0) h
theorem bg {a b d n : Nat} (h : max a b + 1 + d + 6 ≤ n + 1) : b + 3 ≤ n := bb (g2 h)
theorem la1 {a b m c : Nat} (h : max a b ≤ m) : a ≤ m + c := Nat.le_trans (l1 h) (Nat.le_add_right _ _)
theorem la2 {a b m c : Nat} (h : max a b ≤ m) : b ≤ m + c := Nat.le_trans (l2 h) (Nat.le_add_right _ _)
theorem xl {x a b c : Nat} (h : x ≤ a + c) : x ≤ max a b + c := Nat.le_trans h (Nat.add_le_add_right (Nat.le_max_left _ _) _)
theorem xr {x a b c : Nat} (h : x ≤ b + c) : x ≤ max a b + c := Nat.le_trans h (Nat.add_le_add_right (Nat.le_max_right _ _) _)
theorem zz {a : Nat} : 0 ≤ a := Nat.zero_le a
theorem aa {a b c d : Nat} (h : a ≤ c) (g : b ≤ d) : a + b ≤ c + d := Nat.add_le_add h g
theorem oi {a b : Nat} : (a : Int) = b ↔ a = b := Int.ofNat_inj
end Bd
namespace Holk
open PySem PySem.W PyProof.Rows
theorem said0 : OpenLaw.wellSaid Challenge.rw_sx_r026_1 = true := by kernel_rfl
end Holk
namespace Holk
open PySem
inductive V where
 | d (x : PyData)
 | loc (n : Nat)
inductive Cell where
 | lst (xs : List PyData)
 | dct (kvs : List (Str × PyData))
noncomputable abbrev Frame := List (Option V)
noncomputable abbrev Store := List Cell
inductive Res (α : Type) where
 | ok (a : α) (σ : Store)
 | err (σ : Store)
 | stuck
noncomputable def Res.bind {α β : Type} (f : α → Store → Res β) : Res α → Res β
 | .ok a σ => f a σ
 | .err σ => .err σ
 | .stuck => .stuck
theorem Res.bind_ok {α β : Type} (a : α) (σ : Store) (f : α → Store → Res β) : (Res.ok a σ).bind f = f a σ := rfl
theorem Res.bind_err {α β : Type} (σ : Store) (f : α → Store → Res β) : (Res.err σ).bind f = .err σ := rfl
theorem Res.bind_stuck {α β : Type} (f : α → Store → Res β) : (Res.stuck).bind f = .stuck := rfl
noncomputable def Res.of {α : Type} (σ : Store) : Option α → Res α
 | some a => .ok a σ
 | none => .stuck
theorem Res.of_some {α : Type} (σ : Store) (a : α) : Res.of σ (some a) = .ok a σ := rfl
set_option genInjectivity false in
inductive Op2 where
 | add | sub | mod | mul
set_option genInjectivity false in
inductive Cm where
 | eq | ne | lt | le | gt | ge | is | isNot | mem | nmem
set_option genInjectivity false in
set_option genCtorIdx false in
inductive Tg where
 | var (i : Nat)
 | tup (ts : List Tg)
set_option genInjectivity false in
set_option genCtorIdx false in
inductive E where
 | con (x : PyData)
 | var (i : Nat)
 | glob (g : Nat)
 | tup (xs : List E)
 | lst (xs : List E)
 | idx (a i : E)
 | slc (a : E) (lo hi : Nat)
 | cmp (op : Cm) (a b : E)
 | btw (a b c : E)
 | and (xs : List E)
 | or (xs : List E)
 | not (a : E)
 | bin (op : Op2) (a b : E)
 | neg (a : E)
 | call (f : Nat) (xs : List E)
 | len (a : E)
 | toTup (a : E)
 | toLst (a : E)
 | isBool (a : E)
 | dHas (neg : Bool) (a : E) (i : Nat)
 | dGet (i : Nat) (k : E)
 | comp (n : Nat) (elt : E) (t : Tg) (it : E) (ifs : List E)
set_option genInjectivity false in
set_option genCtorIdx false in
inductive S where
 | assign (t : Tg) (e : E)
 | newl (i : Nat) (xs : List E)
 | newOf (i : Nat) (a : E)
 | newd (i : Nat)
 | setd (i : Nat) (k v : E)
 | app (i : Nat) (e : E)
 | expr (e : E)
 | ite (c : E) (a b : List S)
 | whil (c : E) (b : List S)
 | fors (t : Tg) (e : E) (b : List S)
 | forr (i : Nat) (args : List E) (b : List S)
 | ret (e : E)
 | raise
 | tryv (i : Nat) (e : E)
inductive XR where
 | next (fr : Frame) (σ : Store)
 | ret (v : V) (σ : Store)
 | err (σ : Store)
 | stuck
noncomputable def XR.andThen (k : Frame → Store → XR) : XR → XR
 | .next fr σ => k fr σ
 | .ret v σ => .ret v σ
 | .err σ => .err σ
 | .stuck => .stuck
theorem XR.andThen_next (fr : Frame) (σ : Store) (k : Frame → Store → XR) : (XR.next fr σ).andThen k = k fr σ := rfl
theorem XR.andThen_ret (v : V) (σ : Store) (k : Frame → Store → XR) : (XR.ret v σ).andThen k = .ret v σ := rfl
theorem XR.andThen_err (σ : Store) (k : Frame → Store → XR) : (XR.err σ).andThen k = .err σ := rfl
noncomputable def Res.then {α : Type} (f : α → Store → XR) : Res α → XR
 | .ok a σ => f a σ
 | .err σ => .err σ
 | .stuck => .stuck
theorem Res.then_ok {α : Type} (a : α) (σ : Store) (f : α → Store → XR) : (Res.ok a σ).then f = f a σ := rfl
theorem Res.then_err {α : Type} (σ : Store) (f : α → Store → XR) : (Res.err σ : Res α).then f = .err σ := rfl
noncomputable def deref (σ : Store) : V → Option PyData
 | .d x => some x
 | .loc n => match σ[n]? with
  | some (.lst xs) => some (.list xs)
  | _ => none
noncomputable def lim : Nat := 1048576
noncomputable def dlim : Nat := 1000
noncomputable def at0 : Int → Option Nat
 | .ofNat n => if n < lim then some n else none
 | .negSucc _ => none
noncomputable def dInt : PyData → Option Int
 | .int i => some i
 | _ => none
theorem dInt_iff {x : PyData} {i : Int} (h : dInt x = some i) : x = .int i := by cases x <;> first | (cases h; rfl) | (cases h; done)
noncomputable def dStr : PyData → Option Str
 | .str i => some i
 | _ => none
theorem dStr_iff {x : PyData} {i : Str} (h : dStr x = some i) : x = .str i := by cases x <;> first | (cases h; rfl) | (cases h; done)
noncomputable def dLst : PyData → Option (List PyData)
 | .list i => some i
 | _ => none
theorem dLst_iff {x : PyData} {i : List PyData} (h : dLst x = some i) : x = .list i := by cases x <;> first | (cases h; rfl) | (cases h; done)
noncomputable def dTup : PyData → Option (List PyData)
 | .tuple i => some i
 | _ => none
theorem dTup_iff {x : PyData} {i : List PyData} (h : dTup x = some i) : x = .tuple i := by cases x <;> first | (cases h; rfl) | (cases h; done)
noncomputable def dBool : PyData → Option Bool
 | .bool i => some i
 | _ => none
theorem dBool_iff {x : PyData} {i : Bool} (h : dBool x = some i) : x = .bool i := by cases x <;> first | (cases h; rfl) | (cases h; done)
theorem bnd_iff {α β : Type} {o : Option α} {f : α → Option β} {b : β} (h : o.bind f = some b) : ∃ a, o = some a ∧ f a = some b := by
 cases o with
 | none => cases h
 | some a => exact ⟨a, rfl, h⟩
theorem map_iff {α β : Type} {o : Option α} {f : α → β} {b : β} (h : o.map f = some b) : ∃ a, o = some a ∧ f a = b := by
 cases o with
 | none => cases h
 | some a => cases h; exact ⟨a, rfl, rfl⟩
theorem ite_iff {β : Type} {c : Prop} [Decidable c] {a b : β} (h : (if c then some a else none) = some b) : c ∧ a = b := by
 by_cases q : c
 ·rw [if_pos q] at h; cases h; exact ⟨q, rfl⟩
 ·rw [if_neg q] at h; cases h
noncomputable def atD (n : Nat) : PyData → Option PyData
 | .list xs => xs[n]?
 | .tuple xs => xs[n]?
 | .str s => (s.cps[n]?).map fun c => .str ⟨#[c]⟩
 | _ => none
noncomputable def idxOp (x y : PyData) : Option PyData := (dInt y).bind fun i => (at0 i).bind fun n => atD n x
noncomputable def slcOp (lo hi : Nat) : PyData → Option PyData
 | .list xs => some (.list ((xs.take hi).drop lo))
 | .tuple xs => some (.tuple ((xs.take hi).drop lo))
 | _ => none
noncomputable def addOp (y : PyData) : PyData → Option PyData
 | .int a => (dInt y).map fun b => .int (a + b)
 | .str a => (dStr y).bind fun b => if a.length + b.length ≤ lim then some (.str (a ++ b)) else none
 | .list a => (dLst y).bind fun b => if a.length + b.length ≤ lim then some (.list (a ++ b)) else none
 | .tuple a => (dTup y).bind fun b => if a.length + b.length ≤ lim then some (.tuple (a ++ b)) else none
 | _ => none
noncomputable def binOp : Op2 → PyData → PyData → Option PyData
 | .add, x, y => addOp y x
 | .sub, x, y => (dInt x).bind fun a => (dInt y).map fun b => .int (a - b)
 | .mod, x, y => (dInt x).bind fun a => (dInt y).bind fun b => if 0 < b then some (.int (Int.fmod a b)) else none
 | .mul, _, _ => none
theorem bin_addS (a b : Str) : binOp .add (.str a) (.str b) = if a.length + b.length ≤ lim then some (.str (a ++ b)) else none := rfl
theorem bin_addL (a b : List PyData) : binOp .add (.list a) (.list b) = if a.length + b.length ≤ lim then some (.list (a ++ b)) else none := rfl
theorem bin_modI (a b : Int) : binOp .mod (.int a) (.int b) = if 0 < b then some (.int (Int.fmod a b)) else none := rfl
noncomputable def isN : PyData → Option Bool
 | .none => some false
 | _ => none
noncomputable def isOp : PyData → PyData → Option Bool
 | .none, y => match y with
  | .none => some true
  | .bool _ => some false
  | _ => none
 | .bool a, y => match y with
  | .none => some false
  | .bool b => some (a == b)
  | _ => none
 | .tuple _, y => isN y
 | .list _, y => isN y
 | _, _ => none
noncomputable def memOp (x : PyData) : PyData → Option Bool
 | .list xs => if x.depth ≤ dlim ∨ PyData.depthAll xs ≤ dlim then some (xs.any fun y => PyData.eqv y x) else none
 | .tuple xs => if x.depth ≤ dlim ∨ PyData.depthAll xs ≤ dlim then some (xs.any fun y => PyData.eqv y x) else none
 | _ => none
theorem mem_lst (x : PyData) (xs : List PyData) : memOp x (.list xs) = if x.depth ≤ dlim ∨ PyData.depthAll xs ≤ dlim then some (xs.any fun y => PyData.eqv y x) else none := rfl
theorem mem_tpl (x : PyData) (xs : List PyData) : memOp x (.tuple xs) = if x.depth ≤ dlim ∨ PyData.depthAll xs ≤ dlim then some (xs.any fun y => PyData.eqv y x) else none := rfl
noncomputable def intC (f : Int → Int → Bool) (x y : PyData) : Option Bool := (dInt x).bind fun a => (dInt y).map fun b => f a b
theorem intC_iff {f : Int → Int → Bool} {x y : PyData} {r : Bool} (h : intC f x y = some r) : ∃ i j, x = .int i ∧ y = .int j ∧ f i j = r := by
 obtain ⟨i, hi, h⟩ := bnd_iff h
 obtain ⟨j, hj, h⟩ := map_iff h
 exact ⟨i, j, dInt_iff hi, dInt_iff hj, h⟩
noncomputable def cmpOp : Cm → PyData → PyData → Option Bool
 | .eq, a, b => if b.depth ≤ dlim ∨ a.depth ≤ dlim then some (PyData.eqv a b) else none
 | .ne, a, b => if b.depth ≤ dlim ∨ a.depth ≤ dlim then some (!PyData.eqv a b) else none
 | .lt, a, b => intC (fun i j => decide (i < j)) a b
 | .le, a, b => intC (fun i j => decide (i ≤ j)) a b
 | .gt, a, b => intC (fun i j => decide (j < i)) a b
 | .ge, a, b => intC (fun i j => decide (j ≤ i)) a b
 | .is, a, b => isOp a b
 | .isNot, a, b => (isOp a b).map (!·)
 | .mem, a, b => memOp a b
 | .nmem, a, b => (memOp a b).map (!·)
theorem cmp_e (a b : PyData) : cmpOp .eq a b = if b.depth ≤ dlim ∨ a.depth ≤ dlim then some (PyData.eqv a b) else none := rfl
theorem cmp_n (a b : PyData) : cmpOp .ne a b = if b.depth ≤ dlim ∨ a.depth ≤ dlim then some (!PyData.eqv a b) else none := rfl
noncomputable def lenOp : PyData → Option PyData
 | .list xs => if xs.length ≤ lim then some (.int xs.length) else none
 | .tuple xs => if xs.length ≤ lim then some (.int xs.length) else none
 | _ => none
theorem len_l (xs : List PyData) : lenOp (.list xs) = if xs.length ≤ lim then some (.int xs.length) else none := rfl
theorem len_t (xs : List PyData) : lenOp (.tuple xs) = if xs.length ≤ lim then some (.int xs.length) else none := rfl
noncomputable def itemsOf : PyData → Option (List PyData)
 | .list xs => some xs
 | .tuple xs => some xs
 | _ => none
noncomputable def toTupOp (x : PyData) : Option PyData := (itemsOf x).bind fun xs => if xs.length ≤ lim then some (.tuple xs) else none
noncomputable def toLstOp (x : PyData) : Option PyData := (itemsOf x).bind fun xs => if xs.length ≤ lim then some (.list xs) else none
noncomputable def allD : List V → Option (List PyData)
 | [] => some []
 | .d x :: r => (allD r).map (x :: ·)
 | .loc _ :: _ => none
noncomputable def asBool : V → Option Bool
 | .d (.bool b) => some b
 | _ => none
noncomputable def setO : Frame → Nat → V → Option Frame
 | [], _, _ => none
 | _ :: r, 0, v => some (some v :: r)
 | x :: r, i + 1, v => (setO r i v).map (x :: ·)
theorem Z45 : setO ([]) u1 u2 = (none) := rfl
theorem Z46 : setO (u1 :: r) 0 v = (some (some v :: r)) := rfl
theorem Z47 : setO (x :: r) (i + 1) v = ((setO r i v).map (x :: ·)) := rfl
theorem setO_is (v : V) : ∀ (fr : Frame) (i : Nat), setO fr i v = if i < fr.length then some (fr.set i (some v)) else none
 | [], i => by simp [Z45, Z46, Z47]
 | x :: r, 0 => by simp [Z45, Z46, Z47]
 | x :: r, i + 1 => by
  simp only [Z45, Z46, Z47, setO_is v r i, List.length_cons, Nat.add_lt_add_iff_right, List.set_cons_succ]
  split <;> rfl
mutual
noncomputable def asg (σ : Store) : Tg → V → Frame → Option Frame
 | .var i, v, fr => setO fr i v
 | .tup ts, v, fr => match deref σ v with
  | some (.tuple xs) => asgs σ ts xs fr
  | _ => none
noncomputable def asgs (σ : Store) : List Tg → List PyData → Frame → Option Frame
 | [], [], fr => some fr
 | t :: ts, x :: xs, fr => match asg σ t (.d x) fr with
  | some fr' => asgs σ ts xs fr'
  | none => none
 | _, _, _ => none
end
theorem Z77 : asg σ (.var i) v fr = (setO fr i v) := rfl
theorem Z78 : asg σ (.tup ts) v fr = (match deref σ v with
  | some (.tuple xs) => asgs σ ts xs fr
  | _ => none) := rfl
noncomputable abbrev CallT := Nat → List V → Store → Res V
noncomputable def compItems (f : PyData → Store → Res (Option PyData)) : List PyData → Store → Res (List PyData)
 | [], σ => .ok [] σ
 | x :: xs, σ => (f x σ).bind fun o σ' => (compItems f xs σ').bind fun ys σ'' => .ok (match o with | some y => y :: ys | none => ys) σ''
theorem Z79 : compItems f ([]) σ = (.ok [] σ) := rfl
theorem Z80 : compItems f (x :: xs) σ = ((f x σ).bind fun o σ' => (compItems f xs σ').bind fun ys σ'' => .ok (match o with | some y => y :: ys | none => ys) σ'') := rfl
noncomputable def dictAt (σ : Store) : Option (Option V) → Option (List (Str × PyData))
 | some (some (.loc n)) => match σ[n]? with
  | some (.dct kvs) => some kvs
  | _ => none
 | _ => none
mutual
noncomputable def evE (G : List PyData) (C : CallT) : E → Frame → Store → Res V
 | .con x, _, σ => .ok (.d x) σ
 | .var i, fr, σ => match fr[i]? with
  | some (some v) => .ok v σ
  | _ => .stuck
 | .glob g, _, σ => match G[g]? with
  | some x => .ok (.d x) σ
  | none => .stuck
 | .tup xs, fr, σ => (evEs G C xs fr σ).bind fun vs σ => (Res.of σ (allD vs)).bind fun ds σ => .ok (.d (.tuple ds)) σ
 | .lst xs, fr, σ => (evEs G C xs fr σ).bind fun vs σ => (Res.of σ (allD vs)).bind fun ds σ => .ok (.d (.list ds)) σ
 | .idx a i, fr, σ => (evE G C a fr σ).bind fun va σ => (evE G C i fr σ).bind fun vi σ =>
   (Res.of σ (deref σ va)).bind fun x σ => (Res.of σ (deref σ vi)).bind fun y σ => (Res.of σ (idxOp x y)).bind fun r σ => .ok (.d r) σ
 | .slc a lo hi, fr, σ => (evE G C a fr σ).bind fun va σ => (Res.of σ (deref σ va)).bind fun x σ => (Res.of σ (slcOp lo hi x)).bind fun r σ => .ok (.d r) σ
 | .cmp op a b, fr, σ => (evE G C a fr σ).bind fun va σ => (evE G C b fr σ).bind fun vb σ =>
   (Res.of σ (deref σ va)).bind fun x σ => (Res.of σ (deref σ vb)).bind fun y σ => (Res.of σ ((cmpOp op x y).map .bool)).bind fun r σ => .ok (.d r) σ
 | .btw a b c, fr, σ => (evE G C a fr σ).bind fun va σ => (evE G C b fr σ).bind fun vb σ =>
   (Res.of σ (deref σ va)).bind fun x σ => (Res.of σ (deref σ vb)).bind fun y σ => (Res.of σ (cmpOp .le x y)).bind fun r σ =>
    if r then (evE G C c fr σ).bind fun vc σ => (Res.of σ (deref σ vc)).bind fun z σ => (Res.of σ (cmpOp .lt y z)).bind fun r σ => .ok (.d (.bool r)) σ
    else .ok (.d (.bool false)) σ
 | .and xs, fr, σ => evAnd G C xs fr σ
 | .or xs, fr, σ => evOr G C xs fr σ
 | .not a, fr, σ => (evE G C a fr σ).bind fun v σ => (Res.of σ (asBool v)).bind fun b σ => .ok (.d (.bool (!b))) σ
 | .bin op a b, fr, σ => (evE G C a fr σ).bind fun va σ => (evE G C b fr σ).bind fun vb σ =>
   (Res.of σ (deref σ va)).bind fun x σ => (Res.of σ (deref σ vb)).bind fun y σ => (Res.of σ (binOp op x y)).bind fun r σ => .ok (.d r) σ
 | .neg a, fr, σ => (evE G C a fr σ).bind fun v σ => match v with
   | .d (.int i) => .ok (.d (.int (-i))) σ
   | _ => .stuck
 | .call f xs, fr, σ => (evEs G C xs fr σ).bind fun vs σ => C f vs σ
 | .len a, fr, σ => (evE G C a fr σ).bind fun v σ => (Res.of σ (deref σ v)).bind fun x σ => (Res.of σ (lenOp x)).bind fun r σ => .ok (.d r) σ
 | .toTup a, fr, σ => (evE G C a fr σ).bind fun v σ => (Res.of σ (deref σ v)).bind fun x σ => (Res.of σ (toTupOp x)).bind fun r σ => .ok (.d r) σ
 | .toLst a, fr, σ => (evE G C a fr σ).bind fun v σ => (Res.of σ (deref σ v)).bind fun x σ => (Res.of σ (toLstOp x)).bind fun r σ => .ok (.d r) σ
 | .isBool a, fr, σ => (evE G C a fr σ).bind fun v σ => match v with
   | .d (.bool _) => .ok (.d (.bool true)) σ
   | _ => .stuck
 | .dHas ng a i, fr, σ => (evE G C a fr σ).bind fun v σ => match v with
   | .d (.str k) => (Res.of σ (dictAt σ fr[i]?)).bind fun kvs σ => .ok (.d (.bool (ng != (kvs.lookup k).isSome))) σ
   | _ => .stuck
 | .dGet i a, fr, σ => match fr[i]? with
   | some (some (.loc m)) => (evE G C a fr σ).bind fun v σ => match v with
    | .d (.str k) => (Res.of σ (dictAt σ (some (some (.loc m))))).bind fun kvs σ => (Res.of σ (kvs.lookup k)).bind fun r σ => .ok (.d r) σ
    | _ => .stuck
   | _ => .stuck
 | .comp n elt t it ifs, fr, σ => (evE G C it fr σ).bind fun v σ => match v with
   | .d x => (Res.of σ (itemsOf x)).bind fun items σ =>
     if items.length ≤ lim then
     (compItems (fun y σ => (Res.of σ (asg σ t (.d y) (fr ++ List.replicate n none))).bind fun fr' σ => (evAnd G C ifs fr' σ).bind fun b σ => (Res.of σ (asBool b)).bind fun b σ =>
      if b then (evE G C elt fr' σ).bind fun r σ => match r with
       | .d z => .ok (some z) σ
       | .loc _ => .stuck
      else .ok none σ) items σ).bind fun ys σ => .ok (.d (.list ys)) σ
     else .stuck
   | .loc _ => .stuck
noncomputable def evEs (G : List PyData) (C : CallT) : List E → Frame → Store → Res (List V)
 | [], _, σ => .ok [] σ
 | x :: xs, fr, σ => (evE G C x fr σ).bind fun v σ => (evEs G C xs fr σ).bind fun vs σ => .ok (v :: vs) σ
noncomputable def evAnd (G : List PyData) (C : CallT) : List E → Frame → Store → Res V
 | [], _, σ => .ok (.d (.bool true)) σ
 | x :: xs, fr, σ => (evE G C x fr σ).bind fun v σ => (Res.of σ (asBool v)).bind fun b σ => if b then evAnd G C xs fr σ else .ok (.d (.bool false)) σ
noncomputable def evOr (G : List PyData) (C : CallT) : List E → Frame → Store → Res V
 | [], _, σ => .ok (.d (.bool false)) σ
 | x :: xs, fr, σ => (evE G C x fr σ).bind fun v σ => (Res.of σ (asBool v)).bind fun b σ => if b then .ok (.d (.bool true)) σ else evOr G C xs fr σ
end
theorem Z99 : evAnd G C ([]) u1 σ = (.ok (.d (.bool true)) σ) := rfl
theorem Z100 : evAnd G C (x :: xs) fr σ = ((evE G C x fr σ).bind fun v σ => (Res.of σ (asBool v)).bind fun b σ => if b then evAnd G C xs fr σ else .ok (.d (.bool false)) σ) := rfl
theorem Z97 : evOr G C ([]) u1 σ = (.ok (.d (.bool false)) σ) := rfl
theorem Z98 : evOr G C (x :: xs) fr σ = ((evE G C x fr σ).bind fun v σ => (Res.of σ (asBool v)).bind fun b σ => if b then .ok (.d (.bool true)) σ else evOr G C xs fr σ) := rfl
theorem Z87 : evEs G C ([]) u1 σ = (.ok [] σ) := rfl
theorem Z88 : evEs G C (x :: xs) fr σ = ((evE G C x fr σ).bind fun v σ => (evEs G C xs fr σ).bind fun vs σ => .ok (v :: vs) σ) := rfl
noncomputable def forItems (body : Frame → Store → XR) (t : Tg) : List PyData → Frame → Store → XR
 | [], fr, σ => .next fr σ
 | x :: xs, fr, σ => match asg σ t (.d x) fr with
  | some fr' => (body fr' σ).andThen (forItems body t xs)
  | none => .stuck
theorem Z59 : forItems body t ([]) fr σ = (.next fr σ) := rfl
theorem Z60 : forItems body t (x :: xs) fr σ = (match asg σ t (.d x) fr with
  | some fr' => (body fr' σ).andThen (forItems body t xs)
  | none => .stuck) := rfl
noncomputable def forLoc (body : Frame → Store → XR) (t : Tg) (n : Nat) : Nat → Nat → Frame → Store → XR
 | 0, _, _, _ => .stuck
 | k + 1, i, fr, σ => match σ[n]? with
  | some (.lst xs) => match xs[i]? with
   | none => .next fr σ
   | some x => match asg σ t (.d x) fr with
    | some fr' => (body fr' σ).andThen (forLoc body t n k (i + 1))
    | none => .stuck
  | _ => .stuck
theorem Z17 : forLoc body t n 0 u1 u2 u3 = (.stuck) := rfl
theorem Z18 : forLoc body t n (k + 1) i fr σ = (match σ[n]? with
  | some (.lst xs) => match xs[i]? with
   | none => .next fr σ
   | some x => match asg σ t (.d x) fr with
    | some fr' => (body fr' σ).andThen (forLoc body t n k (i + 1))
    | none => .stuck
  | _ => .stuck) := rfl
noncomputable def whileLoop (c : Frame → Store → Res V) (body : Frame → Store → XR) : Nat → Frame → Store → XR
 | 0, _, _ => .stuck
 | k + 1, fr, σ => (c fr σ).then fun v σ => (Res.of σ (asBool v)).then fun b σ => if b then (body fr σ).andThen (whileLoop c body k) else .next fr σ
theorem Z61 : whileLoop c body 0 u1 u2 = (.stuck) := rfl
theorem Z62 : whileLoop c body (k + 1) fr σ = ((c fr σ).then fun v σ => (Res.of σ (asBool v)).then fun b σ => if b then (body fr σ).andThen (whileLoop c body k) else .next fr σ) := rfl
noncomputable def rangeOf : List PyData → Option (List PyData)
 | [] => none
 | x :: r => (dInt x).bind fun lo => match r with
  | [] => if -1000 ≤ lo ∧ lo ≤ 1000 then some ((List.range lo.toNat).map fun (i : Nat) => .int (0 + 1 * i)) else none
  | y :: r => (dInt y).bind fun hi => match r with
   | [] => none
   | z :: r => (dInt z).bind fun st => match r with
    | [] => if st = -1 ∧ hi = -1 ∧ -1 ≤ lo ∧ lo ≤ 1000 then some ((List.range (lo + 1).toNat).map fun (i : Nat) => .int (lo + -1 * i)) else none
    | _ :: _ => none
theorem range_3 (lo hi st : Int) : rangeOf [.int lo, .int hi, .int st] = if st = -1 ∧ hi = -1 ∧ -1 ≤ lo ∧ lo ≤ 1000 then some ((List.range (lo + 1).toNat).map fun (i : Nat) => .int (lo + -1 * i)) else none := rfl
mutual
noncomputable def exS (G : List PyData) (C : CallT) : S → Frame → Store → XR
 | .assign t e, fr, σ => (evE G C e fr σ).then fun v σ => (Res.of σ (asg σ t v fr)).then fun fr' σ => .next fr' σ
 | .newl i xs, fr, σ => (evEs G C xs fr σ).then fun vs σ => (Res.of σ (allD vs)).then fun ds σ =>
   if i < fr.length then .next (fr.set i (some (.loc σ.length))) (σ ++ [.lst ds]) else .stuck
 | .newOf i a, fr, σ => (evE G C a fr σ).then fun v σ => (Res.of σ (deref σ v)).then fun x σ => (Res.of σ (itemsOf x)).then fun ds σ =>
   if i < fr.length ∧ ds.length ≤ lim then .next (fr.set i (some (.loc σ.length))) (σ ++ [.lst ds]) else .stuck
 | .newd i, fr, σ => if i < fr.length then .next (fr.set i (some (.loc σ.length))) (σ ++ [.dct []]) else .stuck
 | .setd i k v, fr, σ => (evE G C v fr σ).then fun v σ => match v, fr[i]? with
   | .d x, some (some (.loc n)) => (evE G C k fr σ).then fun k σ => (match k, σ[n]? with
    | .d (.str k), some (.dct kvs) => if (kvs.lookup k).isNone ∧ kvs.length ≤ lim then .next fr (σ.set n (.dct (kvs ++ [(k, x)]))) else .stuck
    | _, _ => .stuck)
   | _, _ => .stuck
 | .app i e, fr, σ => match fr[i]? with
   | some (some (.loc n)) => (match σ[n]? with
    | some (.lst _) => (evE G C e fr σ).then fun v σ => (match v, σ[n]? with
     | .d x, some (.lst xs) => if xs.length ≤ lim then .next fr (σ.set n (.lst (xs ++ [x]))) else .stuck
     | _, _ => .stuck)
    | _ => .stuck)
   | _ => .stuck
 | .expr e, fr, σ => (evE G C e fr σ).then fun _ σ => .next fr σ
 | .ite c a b, fr, σ => (evE G C c fr σ).then fun v σ => (Res.of σ (asBool v)).then fun t σ => if t then exSs G C a fr σ else exSs G C b fr σ
 | .whil c b, fr, σ => whileLoop (fun fr σ => evE G C c fr σ) (fun fr σ => exSs G C b fr σ) 1000 fr σ
 | .fors t e b, fr, σ => (evE G C e fr σ).then fun v σ => match v with
   | .d x => (Res.of σ (itemsOf x)).then fun items σ => forItems (fun fr σ => exSs G C b fr σ) t items fr σ
   | .loc n => (Res.of σ (match σ[n]? with | some (.lst xs) => some xs.length | _ => none)).then fun k σ => forLoc (fun fr σ => exSs G C b fr σ) t n (k + 1) 0 fr σ
 | .forr i args b, fr, σ => (evEs G C args fr σ).then fun vs σ => (Res.of σ ((allD vs).bind rangeOf)).then fun items σ => forItems (fun fr σ => exSs G C b fr σ) (.var i) items fr σ
 | .ret e, fr, σ => (evE G C e fr σ).then fun v σ => .ret v σ
 | .raise, _, σ => .err σ
 | .tryv i e, fr, σ => if i < fr.length then (match evE G C e fr σ with
   | .ok v σ => .next (fr.set i (some v)) σ
   | .err σ => .next (fr.set i (some (.d .none))) σ
   | .stuck => .stuck) else .stuck
noncomputable def exSs (G : List PyData) (C : CallT) : List S → Frame → Store → XR
 | [], fr, σ => .next fr σ
 | s :: r, fr, σ => (exS G C s fr σ).andThen (exSs G C r)
end
theorem Z53 : exSs G C ([]) fr σ = (.next fr σ) := rfl
theorem Z54 : exSs G C (s :: r) fr σ = ((exS G C s fr σ).andThen (exSs G C r)) := rfl
structure FD where
 npar : Nat
 nloc : Nat
 body : List S
noncomputable def close (n : Nat) : XR → Res V
 | .next _ σ => .ok (.d .none) (σ.take n)
 | .ret (.d x) σ => .ok (.d x) (σ.take n)
 | .ret (.loc k) σ => if k < n then .ok (.loc k) (σ.take n) else match σ[k]? with
  | some (.lst xs) => .ok (.d (.list xs)) (σ.take n)
  | _ => .stuck
 | .err σ => .err (σ.take n)
 | .stuck => .stuck
noncomputable def callF (FT : List FD) (G : List PyData) : Nat → CallT
 | 0 => fun _ _ _ => .stuck
 | n + 1 => fun f args σ => match FT[f]? with
  | some fd => if args.length = fd.npar then close σ.length (exSs G (callF FT G n) fd.body (args.map some ++ List.replicate (fd.nloc - fd.npar) none) σ) else .stuck
  | none => .stuck
theorem evx_con {G : List PyData} {C : CallT} (x : PyData) (fr : Frame) (σ : Store) : evE G C (.con x) fr σ = (.ok (.d x) σ) := rfl
theorem evx_var {G : List PyData} {C : CallT} (i : Nat) (fr : Frame) (σ : Store) : evE G C (.var i) fr σ = (match fr[i]? with
  | some (some v) => .ok v σ
  | _ => .stuck) := rfl
theorem evx_glob {G : List PyData} {C : CallT} (g : Nat) (fr : Frame) (σ : Store) : evE G C (.glob g) fr σ = (match G[g]? with
  | some x => .ok (.d x) σ
  | none => .stuck) := rfl
theorem evx_tup {G : List PyData} {C : CallT} (xs : List E) (fr : Frame) (σ : Store) : evE G C (.tup xs) fr σ = ((evEs G C xs fr σ).bind fun vs σ => (Res.of σ (allD vs)).bind fun ds σ => .ok (.d (.tuple ds)) σ) := rfl
theorem evx_lst {G : List PyData} {C : CallT} (xs : List E) (fr : Frame) (σ : Store) : evE G C (.lst xs) fr σ = ((evEs G C xs fr σ).bind fun vs σ => (Res.of σ (allD vs)).bind fun ds σ => .ok (.d (.list ds)) σ) := rfl
theorem evx_idx {G : List PyData} {C : CallT} (a : E) (i : E) (fr : Frame) (σ : Store) : evE G C (.idx a i) fr σ = ((evE G C a fr σ).bind fun va σ => (evE G C i fr σ).bind fun vi σ =>
   (Res.of σ (deref σ va)).bind fun x σ => (Res.of σ (deref σ vi)).bind fun y σ => (Res.of σ (idxOp x y)).bind fun r σ => .ok (.d r) σ) := rfl
theorem evx_slc {G : List PyData} {C : CallT} (a : E) (lo : Nat) (hi : Nat) (fr : Frame) (σ : Store) : evE G C (.slc a lo hi) fr σ = ((evE G C a fr σ).bind fun va σ => (Res.of σ (deref σ va)).bind fun x σ => (Res.of σ (slcOp lo hi x)).bind fun r σ => .ok (.d r) σ) := rfl
theorem evx_cmp {G : List PyData} {C : CallT} (op : Cm) (a : E) (b : E) (fr : Frame) (σ : Store) : evE G C (.cmp op a b) fr σ = ((evE G C a fr σ).bind fun va σ => (evE G C b fr σ).bind fun vb σ =>
   (Res.of σ (deref σ va)).bind fun x σ => (Res.of σ (deref σ vb)).bind fun y σ => (Res.of σ ((cmpOp op x y).map .bool)).bind fun r σ => .ok (.d r) σ) := rfl
theorem evx_btw {G : List PyData} {C : CallT} (a : E) (b : E) (c : E) (fr : Frame) (σ : Store) : evE G C (.btw a b c) fr σ = ((evE G C a fr σ).bind fun va σ => (evE G C b fr σ).bind fun vb σ =>
   (Res.of σ (deref σ va)).bind fun x σ => (Res.of σ (deref σ vb)).bind fun y σ => (Res.of σ (cmpOp .le x y)).bind fun r σ =>
    if r then (evE G C c fr σ).bind fun vc σ => (Res.of σ (deref σ vc)).bind fun z σ => (Res.of σ (cmpOp .lt y z)).bind fun r σ => .ok (.d (.bool r)) σ
    else .ok (.d (.bool false)) σ) := rfl
theorem evx_and {G : List PyData} {C : CallT} (xs : List E) (fr : Frame) (σ : Store) : evE G C (.and xs) fr σ = (evAnd G C xs fr σ) := rfl
theorem evx_or {G : List PyData} {C : CallT} (xs : List E) (fr : Frame) (σ : Store) : evE G C (.or xs) fr σ = (evOr G C xs fr σ) := rfl
theorem evx_not {G : List PyData} {C : CallT} (a : E) (fr : Frame) (σ : Store) : evE G C (.not a) fr σ = ((evE G C a fr σ).bind fun v σ => (Res.of σ (asBool v)).bind fun b σ => .ok (.d (.bool (!b))) σ) := rfl
theorem evx_bin {G : List PyData} {C : CallT} (op : Op2) (a : E) (b : E) (fr : Frame) (σ : Store) : evE G C (.bin op a b) fr σ = ((evE G C a fr σ).bind fun va σ => (evE G C b fr σ).bind fun vb σ =>
   (Res.of σ (deref σ va)).bind fun x σ => (Res.of σ (deref σ vb)).bind fun y σ => (Res.of σ (binOp op x y)).bind fun r σ => .ok (.d r) σ) := rfl
theorem evx_neg {G : List PyData} {C : CallT} (a : E) (fr : Frame) (σ : Store) : evE G C (.neg a) fr σ = ((evE G C a fr σ).bind fun v σ => match v with
   | .d (.int i) => .ok (.d (.int (-i))) σ
   | _ => .stuck) := rfl
theorem evx_call {G : List PyData} {C : CallT} (f : Nat) (xs : List E) (fr : Frame) (σ : Store) : evE G C (.call f xs) fr σ = ((evEs G C xs fr σ).bind fun vs σ => C f vs σ) := rfl
theorem evx_len {G : List PyData} {C : CallT} (a : E) (fr : Frame) (σ : Store) : evE G C (.len a) fr σ = ((evE G C a fr σ).bind fun v σ => (Res.of σ (deref σ v)).bind fun x σ => (Res.of σ (lenOp x)).bind fun r σ => .ok (.d r) σ) := rfl
theorem evx_toTup {G : List PyData} {C : CallT} (a : E) (fr : Frame) (σ : Store) : evE G C (.toTup a) fr σ = ((evE G C a fr σ).bind fun v σ => (Res.of σ (deref σ v)).bind fun x σ => (Res.of σ (toTupOp x)).bind fun r σ => .ok (.d r) σ) := rfl
theorem evx_toLst {G : List PyData} {C : CallT} (a : E) (fr : Frame) (σ : Store) : evE G C (.toLst a) fr σ = ((evE G C a fr σ).bind fun v σ => (Res.of σ (deref σ v)).bind fun x σ => (Res.of σ (toLstOp x)).bind fun r σ => .ok (.d r) σ) := rfl
theorem evx_isBool {G : List PyData} {C : CallT} (a : E) (fr : Frame) (σ : Store) : evE G C (.isBool a) fr σ = ((evE G C a fr σ).bind fun v σ => match v with
   | .d (.bool _) => .ok (.d (.bool true)) σ
   | _ => .stuck) := rfl
theorem evx_dHas {G : List PyData} {C : CallT} (ng : Bool) (a : E) (i : Nat) (fr : Frame) (σ : Store) : evE G C (.dHas ng a i) fr σ = ((evE G C a fr σ).bind fun v σ => match v with
   | .d (.str k) => (Res.of σ (dictAt σ fr[i]?)).bind fun kvs σ => .ok (.d (.bool (ng != (kvs.lookup k).isSome))) σ
   | _ => .stuck) := rfl
theorem evx_dGet {G : List PyData} {C : CallT} (i : Nat) (a : E) (fr : Frame) (σ : Store) : evE G C (.dGet i a) fr σ = (match fr[i]? with
   | some (some (.loc m)) => (evE G C a fr σ).bind fun v σ => match v with
    | .d (.str k) => (Res.of σ (dictAt σ (some (some (.loc m))))).bind fun kvs σ => (Res.of σ (kvs.lookup k)).bind fun r σ => .ok (.d r) σ
    | _ => .stuck
   | _ => .stuck) := rfl
theorem evx_comp {G : List PyData} {C : CallT} (n : Nat) (elt : E) (t : Tg) (it : E) (ifs : List E) (fr : Frame) (σ : Store) : evE G C (.comp n elt t it ifs) fr σ = ((evE G C it fr σ).bind fun v σ => match v with
   | .d x => (Res.of σ (itemsOf x)).bind fun items σ =>
     if items.length ≤ lim then
     (compItems (fun y σ => (Res.of σ (asg σ t (.d y) (fr ++ List.replicate n none))).bind fun fr' σ => (evAnd G C ifs fr' σ).bind fun b σ => (Res.of σ (asBool b)).bind fun b σ =>
      if b then (evE G C elt fr' σ).bind fun r σ => match r with
       | .d z => .ok (some z) σ
       | .loc _ => .stuck
      else .ok none σ) items σ).bind fun ys σ => .ok (.d (.list ys)) σ
     else .stuck
   | .loc _ => .stuck) := rfl
theorem exx_assign {G : List PyData} {C : CallT} (t : Tg) (e : E) (fr : Frame) (σ : Store) : exS G C (.assign t e) fr σ = ((evE G C e fr σ).then fun v σ => (Res.of σ (asg σ t v fr)).then fun fr' σ => .next fr' σ) := rfl
theorem exx_newl {G : List PyData} {C : CallT} (i : Nat) (xs : List E) (fr : Frame) (σ : Store) : exS G C (.newl i xs) fr σ = ((evEs G C xs fr σ).then fun vs σ => (Res.of σ (allD vs)).then fun ds σ =>
   if i < fr.length then .next (fr.set i (some (.loc σ.length))) (σ ++ [.lst ds]) else .stuck) := rfl
theorem exx_newOf {G : List PyData} {C : CallT} (i : Nat) (a : E) (fr : Frame) (σ : Store) : exS G C (.newOf i a) fr σ = ((evE G C a fr σ).then fun v σ => (Res.of σ (deref σ v)).then fun x σ => (Res.of σ (itemsOf x)).then fun ds σ =>
   if i < fr.length ∧ ds.length ≤ lim then .next (fr.set i (some (.loc σ.length))) (σ ++ [.lst ds]) else .stuck) := rfl
theorem exx_newd {G : List PyData} {C : CallT} (i : Nat) (fr : Frame) (σ : Store) : exS G C (.newd i) fr σ = (if i < fr.length then .next (fr.set i (some (.loc σ.length))) (σ ++ [.dct []]) else .stuck) := rfl
theorem exx_setd {G : List PyData} {C : CallT} (i : Nat) (k : E) (v : E) (fr : Frame) (σ : Store) : exS G C (.setd i k v) fr σ = ((evE G C v fr σ).then fun v σ => match v, fr[i]? with
   | .d x, some (some (.loc n)) => (evE G C k fr σ).then fun k σ => (match k, σ[n]? with
    | .d (.str k), some (.dct kvs) => if (kvs.lookup k).isNone ∧ kvs.length ≤ lim then .next fr (σ.set n (.dct (kvs ++ [(k, x)]))) else .stuck
    | _, _ => .stuck)
   | _, _ => .stuck) := rfl
theorem exx_app {G : List PyData} {C : CallT} (i : Nat) (e : E) (fr : Frame) (σ : Store) : exS G C (.app i e) fr σ = (match fr[i]? with
   | some (some (.loc n)) => (match σ[n]? with
    | some (.lst _) => (evE G C e fr σ).then fun v σ => (match v, σ[n]? with
     | .d x, some (.lst xs) => if xs.length ≤ lim then .next fr (σ.set n (.lst (xs ++ [x]))) else .stuck
     | _, _ => .stuck)
    | _ => .stuck)
   | _ => .stuck) := rfl
theorem exx_expr {G : List PyData} {C : CallT} (e : E) (fr : Frame) (σ : Store) : exS G C (.expr e) fr σ = ((evE G C e fr σ).then fun _ σ => .next fr σ) := rfl
theorem exx_ite {G : List PyData} {C : CallT} (c : E) (a : List S) (b : List S) (fr : Frame) (σ : Store) : exS G C (.ite c a b) fr σ = ((evE G C c fr σ).then fun v σ => (Res.of σ (asBool v)).then fun t σ => if t then exSs G C a fr σ else exSs G C b fr σ) := rfl
theorem exx_whil {G : List PyData} {C : CallT} (c : E) (b : List S) (fr : Frame) (σ : Store) : exS G C (.whil c b) fr σ = (whileLoop (fun fr σ => evE G C c fr σ) (fun fr σ => exSs G C b fr σ) 1000 fr σ) := rfl
theorem exx_fors {G : List PyData} {C : CallT} (t : Tg) (e : E) (b : List S) (fr : Frame) (σ : Store) : exS G C (.fors t e b) fr σ = ((evE G C e fr σ).then fun v σ => match v with
   | .d x => (Res.of σ (itemsOf x)).then fun items σ => forItems (fun fr σ => exSs G C b fr σ) t items fr σ
   | .loc n => (Res.of σ (match σ[n]? with | some (.lst xs) => some xs.length | _ => none)).then fun k σ => forLoc (fun fr σ => exSs G C b fr σ) t n (k + 1) 0 fr σ) := rfl
theorem exx_forr {G : List PyData} {C : CallT} (i : Nat) (args : List E) (b : List S) (fr : Frame) (σ : Store) : exS G C (.forr i args b) fr σ = ((evEs G C args fr σ).then fun vs σ => (Res.of σ ((allD vs).bind rangeOf)).then fun items σ => forItems (fun fr σ => exSs G C b fr σ) (.var i) items fr σ) := rfl
theorem exx_ret {G : List PyData} {C : CallT} (e : E) (fr : Frame) (σ : Store) : exS G C (.ret e) fr σ = ((evE G C e fr σ).then fun v σ => .ret v σ) := rfl
theorem exx_raise {G : List PyData} {C : CallT}  (fr : Frame) (σ : Store) : exS G C (.raise) fr σ = (.err σ) := rfl
theorem exx_tryv {G : List PyData} {C : CallT} (i : Nat) (e : E) (fr : Frame) (σ : Store) : exS G C (.tryv i e) fr σ = (if i < fr.length then (match evE G C e fr σ with
   | .ok v σ => .next (fr.set i (some v)) σ
   | .err σ => .next (fr.set i (some (.d .none))) σ
   | .stuck => .stuck) else .stuck) := rfl
end Holk
namespace Holk
open PySem
noncomputable abbrev Fz := Addr → Option Obj
noncomputable def tupO (vs : List Value) (n : Nat) : Obj := { cls := .type "tuple", data := .seq vs.toArray n }
noncomputable def lstO (vs : List Value) (n : Nat) : Obj := { cls := .type "list", data := .seq vs.toArray n }
mutual
inductive RD (Φ : Fz) : Value → PyData → Prop
 | none : RD Φ .none .none
 | bool (b : Bool) : RD Φ (.bool b) (.bool b)
 | int (i : Int) (t : Tok) : RD Φ (.int i t) (.int i)
 | str (x : Str) (t : Tok) : PyData.strOk x = true → RD Φ (.str x t) (.str x)
 | tuple {a : Addr} {vs : List Value} {n : Nat} {xs : List PyData} : Φ a = some (tupO vs n) → RDs Φ vs xs → RD Φ (.ref a) (.tuple xs)
 | list {a : Addr} {vs : List Value} {n : Nat} {xs : List PyData} : Φ a = some (lstO vs n) → RDs Φ vs xs → RD Φ (.ref a) (.list xs)
inductive RDs (Φ : Fz) : List Value → List PyData → Prop
 | nil : RDs Φ [] []
 | cons {v : Value} {vs : List Value} {x : PyData} {xs : List PyData} : RD Φ v x → RDs Φ vs xs → RDs Φ (v :: vs) (x :: xs)
end
mutual
theorem RD.mono {Φ Φ' : Fz} (h : ∀ a o, Φ a = some o → Φ' a = some o) : ∀ {v : Value} {x : PyData}, RD Φ v x → RD Φ' v x
 | _, _, .none => .none
 | _, _, .bool b => .bool b
 | _, _, .int i t => .int i t
 | _, _, .str x t k => .str x t k
 | _, _, .tuple e r => .tuple (h _ _ e) (RDs.mono h r)
 | _, _, .list e r => .list (h _ _ e) (RDs.mono h r)
theorem RDs.mono {Φ Φ' : Fz} (h : ∀ a o, Φ a = some o → Φ' a = some o) : ∀ {vs : List Value} {xs : List PyData}, RDs Φ vs xs → RDs Φ' vs xs
 | _, _, .nil => .nil
 | _, _, .cons e r => .cons (RD.mono h e) (RDs.mono h r)
end
theorem RDs.length {Φ : Fz} : ∀ {vs : List Value} {xs : List PyData}, RDs Φ vs xs → vs.length = xs.length
 | _, _, .nil => rfl
 | _, _, .cons _ r => by simp [RDs.length r]
theorem RDs.append {Φ : Fz} : ∀ {vs ws : List Value} {xs ys : List PyData}, RDs Φ vs xs → RDs Φ ws ys → RDs Φ (vs ++ ws) (xs ++ ys)
 | _, _, _, _, .nil, k => k
 | _, _, _, _, .cons e r, k => .cons e (RDs.append r k)
theorem RDs.get {Φ : Fz} : ∀ {vs : List Value} {xs : List PyData}, RDs Φ vs xs → ∀ {i : Nat} {x : PyData}, xs[i]? = some x → ∃ v, vs[i]? = some v ∧ RD Φ v x
 | _, _, .nil, i, x, e => by simp at e
 | _, _, .cons (v := v) e r, 0, x, q => by simp at q; subst q; exact ⟨v, by simp, e⟩
 | _, _, .cons e r, i + 1, x, q => by
  simp at q
  obtain ⟨v, h1, h2⟩ := RDs.get r q
  exact ⟨v, by simpa using h1, h2⟩
theorem RDs.take {Φ : Fz} : ∀ {vs : List Value} {xs : List PyData} (n : Nat), RDs Φ vs xs → RDs Φ (vs.take n) (xs.take n)
 | _, _, 0, _ => by simpa using RDs.nil
 | _, _, n + 1, .nil => by simpa using RDs.nil
 | _, _, n + 1, .cons e r => by simpa using RDs.cons e (RDs.take n r)
theorem RDs.drop {Φ : Fz} : ∀ {vs : List Value} {xs : List PyData} (n : Nat), RDs Φ vs xs → RDs Φ (vs.drop n) (xs.drop n)
 | _, _, 0, r => by simpa using r
 | _, _, n + 1, .nil => by simpa using RDs.nil
 | _, _, n + 1, .cons e r => by simpa using RDs.drop n r
mutual
theorem RD.reads {Φ : Fz} {h : Heap} (hf : ∀ a o, Φ a = some o → h.get? a = some o) : ∀ {v : Value} {x : PyData}, RD Φ v x → ∃ as, Reads h v x as
 | _, _, .none => ⟨_, .none⟩
 | _, _, .bool b => ⟨_, .bool b⟩
 | _, _, .int i t => ⟨_, .int i t⟩
 | _, _, .str x t _ => ⟨_, .str x t⟩
 | _, _, .tuple e r => let ⟨as, q⟩ := RDs.reads hf r; ⟨as, .tuple (hf _ _ e) rfl rfl (by simpa using q)⟩
 | _, _, .list e r => let ⟨as, q⟩ := RDs.reads hf r; ⟨_, .list (hf _ _ e) rfl rfl (by simpa using q)⟩
theorem RDs.reads {Φ : Fz} {h : Heap} (hf : ∀ a o, Φ a = some o → h.get? a = some o) : ∀ {vs : List Value} {xs : List PyData}, RDs Φ vs xs → ∃ as, ReadsAll h vs xs as
 | _, _, .nil => ⟨_, .nil⟩
 | _, _, .cons e r => let ⟨as, q⟩ := RD.reads hf e; let ⟨bs, p⟩ := RDs.reads hf r; ⟨_, .cons q p⟩
end
mutual
theorem RD.lay {Φ : Fz} : ∀ {v : Value} {x : PyData}, RD Φ v x → x.canLay0 = true
 | _, _, .none => rfl
 | _, _, .bool b => rfl
 | _, _, .int i t => rfl
 | _, _, .str x t k => by simpa [PyData.canLay0] using k
 | _, _, .tuple e r => by simpa [PyData.canLay0] using RDs.lay r
 | _, _, .list e r => by simpa [PyData.canLay0] using RDs.lay r
theorem RDs.lay {Φ : Fz} : ∀ {vs : List Value} {xs : List PyData}, RDs Φ vs xs → PyData.canLayAll0 xs = true
 | _, _, .nil => rfl
 | _, _, .cons e r => by simp [PyData.canLayAll0, RD.lay e, RDs.lay r]
end
inductive RT (h : Heap) (Φ : Fz) : Value → PyData → Prop
 | frz {v : Value} {x : PyData} : RD Φ v x → RT h Φ v x
 | cell {a : Addr} {vs : List Value} {n : Nat} {xs : List PyData} : h.get? a = some (lstO vs n) → RDs Φ vs xs → RT h Φ (.ref a) (.list xs)
theorem RT.reads {h : Heap} {Φ : Fz} (hf : ∀ a o, Φ a = some o → h.get? a = some o) {v : Value} {x : PyData} (r : RT h Φ v x) : ∃ as, Reads h v x as := by
 cases r with
 | frz r => exact r.reads hf
 | cell e r => obtain ⟨as, q⟩ := r.reads hf; exact ⟨_, .list e rfl rfl (by simpa using q)⟩
theorem RT.lay {h : Heap} {Φ : Fz} {v : Value} {x : PyData} (r : RT h Φ v x) : x.canLay0 = true := by
 cases r with
 | frz r => exact r.lay
 | cell e r => simpa [PyData.canLay0] using r.lay
theorem RT.list {h : Heap} {Φ : Fz} (hf : ∀ a o, Φ a = some o → h.get? a = some o) {v : Value} {xs : List PyData} (r : RT h Φ v (.list xs)) :
  ∃ a vs n, v = .ref a ∧ h.get? a = some (lstO vs n) ∧ RDs Φ vs xs := by
 cases r with
 | frz r => cases r with | list e r => exact ⟨_, _, _, rfl, hf _ _ e, r⟩
 | cell e r => exact ⟨_, _, _, rfl, e, r⟩
theorem RT.tuple {h : Heap} {Φ : Fz} (hf : ∀ a o, Φ a = some o → h.get? a = some o) {v : Value} {xs : List PyData} (r : RT h Φ v (.tuple xs)) :
  ∃ a vs n, v = .ref a ∧ h.get? a = some (tupO vs n) ∧ RDs Φ vs xs := by
 cases r with
 | frz r => cases r with | tuple e r => exact ⟨_, _, _, rfl, hf _ _ e, r⟩
theorem RT.int {h : Heap} {Φ : Fz} {v : Value} {i : Int} (r : RT h Φ v (.int i)) : ∃ t, v = .int i t := by
 cases r with | frz r => cases r with | int i t => exact ⟨t, rfl⟩
theorem RT.str {h : Heap} {Φ : Fz} {v : Value} {x : Str} (r : RT h Φ v (.str x)) : ∃ t, v = .str x t ∧ PyData.strOk x = true := by
 cases r with | frz r => cases r with | str x t k => exact ⟨t, rfl, k⟩
theorem RT.bool {h : Heap} {Φ : Fz} {v : Value} {b : Bool} (r : RT h Φ v (.bool b)) : v = .bool b := by
 cases r with | frz r => cases r with | bool b => rfl
theorem RT.none {h : Heap} {Φ : Fz} {v : Value} (r : RT h Φ v .none) : v = .none := by
 cases r with | frz r => cases r with | none => rfl
structure Wd where
 prog : Program
 w : World
 h₀ : Heap
 mg : Str → Option Value
 mb : Str → Option Value
 G : List PyData
 GN : List Str
 FT : List FD
 FN : List Str
inductive PR (Φ : Fz) : List (Str × Value) → List (Str × PyData) → Prop
 | nil : PR Φ [] []
 | cons {k : Str} {v : Value} {x : PyData} {ws : List (Str × Value)} {kvs : List (Str × PyData)} : RD Φ v x → PR Φ ws kvs → PR Φ ((k, v) :: ws) ((k, x) :: kvs)
theorem PR.mono {Φ Φ' : Fz} (h : ∀ a o, Φ a = some o → Φ' a = some o) {ws : List (Str × Value)} {kvs : List (Str × PyData)} (r : PR Φ ws kvs) : PR Φ' ws kvs := by
 induction r with
 | nil => exact .nil
 | cons e _ ih => exact .cons (e.mono h) ih
theorem PR.length {Φ : Fz} {ws : List (Str × Value)} {kvs : List (Str × PyData)} (r : PR Φ ws kvs) : ws.length = kvs.length := by
 induction r with
 | nil => rfl
 | cons _ _ ih => simp [ih]
noncomputable def CellAt (W : Wd) (Φ : Fz) (h : Heap) (a : Addr) : Cell → Prop
 | .lst xs => ∃ vs n, h.get? a = some (lstO vs n) ∧ RDs Φ vs xs
 | .dct kvs => ∃ ws, h.DictOf (strKind W.prog W.w) a ws ∧ PR Φ ws kvs
theorem CellAt.alive {W : Wd} {Φ : Fz} {h : Heap} {a : Addr} {c : Cell} (x : CellAt W Φ h a c) : ∃ o, h.get? a = some o := by
 cases c with
 | lst xs => obtain ⟨_, _, e, _⟩ := x; exact ⟨_, e⟩
 | dct kvs => obtain ⟨_, ⟨o, _, _, e, _⟩, _⟩ := x; exact ⟨_, e⟩
theorem CellAt.mono {W : Wd} {Φ Φ' : Fz} {h h' : Heap} {a : Addr} {c : Cell} (hm : ∀ a o, Φ a = some o → Φ' a = some o) (hk : ∀ o, h.get? a = some o → h'.get? a = some o) (x : CellAt W Φ h a c) : CellAt W Φ' h' a c := by
 cases c with
 | lst xs => obtain ⟨vs, n, e, r⟩ := x; exact ⟨vs, n, hk _ e, r.mono hm⟩
 | dct kvs => obtain ⟨ws, e, r⟩ := x; exact ⟨ws, e.at hk, r.mono hm⟩
structure Inv (W : Wd) (Φ : Fz) (ρ : List Addr) (σ : Store) (h : Heap) : Prop where
 base : ∀ a o, W.h₀.get? a = some o → Φ a = some o
 frz : ∀ a o, Φ a = some o → h.get? a = some o
 len : ρ.length = σ.length
 cell : ∀ (n : Nat) (a : Addr) (c : Cell), ρ[n]? = some a → σ[n]? = some c → CellAt W Φ h a c
 nodup : ρ.Nodup
 apart : ∀ a ∈ ρ, Φ a = none
theorem Inv.keeps {W : Wd} {Φ : Fz} {ρ : List Addr} {σ : Store} {h : Heap} (I : Inv W Φ ρ σ h) : ∀ b o, W.h₀.get? b = some o → h.get? b = some o := fun b o e => I.frz b o (I.base b o e)
structure Kp (X : Addr → Prop) (fs : List Addr) (h h' : Heap) : Prop where
 alive : ∀ a o, h.get? a = some o → ∃ o', h'.get? a = some o'
 keep : ∀ a o, ¬ X a → a ∉ fs → h.get? a = some o → h'.get? a = some o
 slots : ∀ a o, ¬ X a → h.get? a = some o → ∃ sl, h'.get? a = some { o with slots := sl }
theorem Kp.refl (X : Addr → Prop) (fs : List Addr) (h : Heap) : Kp X fs h h := ⟨fun _ o e => ⟨o, e⟩, fun _ _ _ _ e => e, fun _ o _ e => ⟨o.slots, e⟩⟩
theorem Kp.trans {X : Addr → Prop} {fs : List Addr} {h₁ h₂ h₃ : Heap} (a : Kp X fs h₁ h₂) (b : Kp X fs h₂ h₃) : Kp X fs h₁ h₃ :=
 ⟨fun x o e => let ⟨o', e'⟩ := a.alive x o e; b.alive x o' e', fun x o hx hf e => b.keep x o hx hf (a.keep x o hx hf e), fun x o hx e => let ⟨_, e'⟩ := a.slots x o hx e; let ⟨sl, e''⟩ := b.slots x _ hx e'; ⟨sl, e''⟩⟩
theorem Kp.mono {X Y : Addr → Prop} {fs gs : List Addr} {h h' : Heap} (k : Kp X fs h h') (hx : ∀ a, X a → Y a) (hf : ∀ a ∈ fs, a ∈ gs) : Kp Y gs h h' :=
 ⟨k.alive, fun a o ha hg e => k.keep a o (fun q => ha (hx a q)) (fun q => hg (hf a q)) e, fun a o ha e => k.slots a o (fun q => ha (hx a q)) e⟩
theorem Kp.mono' {X Y : Addr → Prop} {fs gs : List Addr} {h h' : Heap} (k : Kp X fs h h') (hx : ∀ a o, h.get? a = some o → X a → Y a) (hf : ∀ a o, h.get? a = some o → ¬ Y a → a ∈ fs → a ∈ gs) : Kp Y gs h h' :=
 ⟨k.alive, fun a o ha hg e => k.keep a o (fun q => ha (hx a o e q)) (fun q => hg (hf a o e ha q)) e, fun a o ha e => k.slots a o (fun q => ha (hx a o e q)) e⟩
theorem Kp.push (X : Addr → Prop) (fs : List Addr) (h : Heap) (o : Obj) : Kp X fs h (h.push o) :=
 ⟨fun _ o' e => ⟨o', Heap.get?_push_of_some _ e⟩, fun _ _ _ _ e => Heap.get?_push_of_some _ e, fun _ o' _ e => ⟨o'.slots, Heap.get?_push_of_some _ e⟩⟩
theorem Kp.sameBut {X : Addr → Prop} {fs : List Addr} {a : Addr} {h h' : Heap} (hs : Heap.SameBut a h h') (ha : X a ∨ h.get? a = none) (hl : ∃ o', h'.get? a = some o') : Kp X fs h h' := by
 have key : ∀ x o, ¬ X x → h.get? x = some o → h'.get? x = some o := fun x o hx e => by
  have : x ≠ a := by rintro rfl; rcases ha with q | q; exact hx q; rw [q] at e; cases e
  exact (hs.2 x this).trans e
 refine ⟨fun x o e => ?_, fun x o hx _ e => key x o hx e, fun x o hx e => ⟨o.slots, key x o hx e⟩⟩
 by_cases q : x = a
 ·subst q; exact hl
 ·exact ⟨o, (hs.2 x q).trans e⟩
theorem Kp.of_ext {X : Addr → Prop} {fs : List Addr} {h h' : Heap} (k : ∀ a o, h.get? a = some o → h'.get? a = some o) : Kp X fs h h' :=
 ⟨fun a o e => ⟨o, k a o e⟩, fun a o _ _ e => k a o e, fun a o _ e => ⟨o.slots, k a o e⟩⟩
structure Step (ρ fs : List Addr) (Φ : Fz) (h : Heap) (Φ' : Fz) (h' : Heap) : Prop where
 ext : ∀ a o, Φ a = some o → Φ' a = some o
 fresh : ∀ a o, h.get? a = some o → Φ' a = Φ a
 kp : Kp (· ∈ ρ) fs h h'
theorem Step.refl (ρ fs : List Addr) (Φ : Fz) (h : Heap) : Step ρ fs Φ h Φ h := ⟨fun _ _ e => e, fun _ _ _ => rfl, .refl ..⟩
theorem Step.trans {ρ fs : List Addr} {Φ₁ Φ₂ Φ₃ : Fz} {h₁ h₂ h₃ : Heap} (a : Step ρ fs Φ₁ h₁ Φ₂ h₂) (b : Step ρ fs Φ₂ h₂ Φ₃ h₃) : Step ρ fs Φ₁ h₁ Φ₃ h₃ :=
 ⟨fun x o e => b.ext x o (a.ext x o e), fun x o e => let ⟨o', e'⟩ := a.kp.alive x o e; (b.fresh x o' e').trans (a.fresh x o e), a.kp.trans b.kp⟩
theorem Step.of_ext {ρ fs : List Addr} {Φ : Fz} {h h' : Heap} (k : ∀ a o, h.get? a = some o → h'.get? a = some o) : Step ρ fs Φ h Φ h' := ⟨fun _ _ e => e, fun _ _ _ => rfl, .of_ext k⟩
noncomputable def VR (Φ : Fz) (ρ : List Addr) (v : Value) : V → Prop
 | .d x => RD Φ v x
 | .loc n => ∃ a, ρ[n]? = some a ∧ v = .ref a
theorem VR.mono {Φ Φ' : Fz} {ρ : List Addr} (h : ∀ a o, Φ a = some o → Φ' a = some o) {v : Value} : ∀ {x : V}, VR Φ ρ v x → VR Φ' ρ v x
 | .d _, r => RD.mono h r
 | .loc _, r => r
noncomputable def VRs (Φ : Fz) (ρ : List Addr) : List Value → List V → Prop
 | [], [] => True
 | v :: vs, x :: xs => VR Φ ρ v x ∧ VRs Φ ρ vs xs
 | _, _ => False
theorem VRs.mono {Φ Φ' : Fz} {ρ : List Addr} (h : ∀ a o, Φ a = some o → Φ' a = some o) : ∀ {vs : List Value} {xs : List V}, VRs Φ ρ vs xs → VRs Φ' ρ vs xs
 | [], [], _ => trivial
 | _ :: _, _ :: _, r => ⟨VR.mono h r.1, VRs.mono h r.2⟩
 | [], _ :: _, r => r.elim
 | _ :: _, [], r => r.elim
theorem VRs.length {Φ : Fz} {ρ : List Addr} : ∀ {vs : List Value} {xs : List V}, VRs Φ ρ vs xs → vs.length = xs.length
 | [], [], _ => rfl
 | _ :: _, _ :: _, r => by simp [VRs.length r.2]
 | [], _ :: _, r => r.elim
 | _ :: _, [], r => r.elim
theorem VRs.allD {Φ : Fz} {ρ : List Addr} : ∀ {vs : List Value} {xs : List V} {ds : List PyData}, VRs Φ ρ vs xs → allD xs = some ds → RDs Φ vs ds
 | [], [], ds, _, e => by simp [Holk.allD] at e; subst e; exact .nil
 | v :: vs, .d x :: xs, ds, r, e => by
  simp only [Holk.allD, Option.map_eq_some_iff] at e
  obtain ⟨ds', e', rfl⟩ := e
  exact .cons r.1 (VRs.allD r.2 e')
 | v :: vs, .loc _ :: xs, ds, r, e => by simp [Holk.allD] at e
 | [], _ :: _, _, r, _ => r.elim
 | _ :: _, [], _, r, _ => r.elim
theorem Inv.deref {W : Wd} {Φ : Fz} {ρ : List Addr} {σ : Store} {h : Heap} (I : Inv W Φ ρ σ h) {v : Value} {x : V} {d : PyData} (r : VR Φ ρ v x) (e : deref σ x = some d) : RT h Φ v d := by
 cases x with
 | d x => simp [Holk.deref] at e; subst e; exact .frz r
 | loc n =>
  obtain ⟨a, ha, rfl⟩ := r
  simp only [Holk.deref] at e
  split at e
  ·rename_i xs hs
   cases e
   obtain ⟨vs, k, hg, hr⟩ := I.cell n a _ ha hs
   exact .cell hg hr
  ·cases e
end Holk
namespace Holk
open PySem
inductive Tb (Φ : Fz) (ρ : List Addr) (L : Addr) (h h' : Heap) (e : Addr) (vs : Array Value) (c : Bool) : Prop
 | none : c = false → vs[1]? = some .none → Tb Φ ρ L h h' e vs c
 | some {T : Addr} {oT : Obj} {ts : Array Value} : vs[1]? = some (.ref T) → T ≠ e → h.get? T = .none → Φ T = .none → T ∉ ρ → h'.get? T = some oT → oT.data = .fields ts →
   (ts[3]? = some (rawInt L) ∨ (c = false ∧ ∃ y, ts[3]? = some y)) → Tb Φ ρ L h h' e vs c
inductive Thrown (Φ : Fz) (ρ : List Addr) (L : Addr) (h h' : Heap) (e : Addr) (c : Bool) : Prop
 | mk (new : h.get? e = none) (fz : Φ e = none) (out : e ∉ ρ) (oe : Obj) (vs : Array Value) (he : h'.get? e = some oe) (hc : oe.cls = .type "ValueError") (hd : oe.data = .fields vs) (tb : Tb Φ ρ L h h' e vs c) : Thrown Φ ρ L h h' e c
theorem Thrown.weaken {Φ : Fz} {ρ : List Addr} {L : Addr} {h h' : Heap} {e : Addr} (t : Thrown Φ ρ L h h' e true) : Thrown Φ ρ L h h' e false := by
 obtain ⟨a, b, c, oe, vs, h1, h2, h3, h4⟩ := t
 refine ⟨a, b, c, oe, vs, h1, h2, h3, ?_⟩
 cases h4 with
 | none q _ => cases q
 | some a b c d e f g k => exact .some a b c d e f g (by rcases k with k | ⟨k, _⟩; exact .inl k; cases k)
theorem Thrown.back {Φ : Fz} {ρ : List Addr} {L : Addr} {h₀ h h' : Heap} {e : Addr} {c : Bool} (k : ∀ a o, h₀.get? a = some o → ∃ o', h.get? a = some o') (t : Thrown Φ ρ L h h' e c) : Thrown Φ ρ L h₀ h' e c := by
 have key : ∀ a, h.get? a = none → h₀.get? a = none := fun a q => by
  cases e : h₀.get? a with
  | none => rfl
  | some o => obtain ⟨o', e'⟩ := k a o e; rw [q] at e'; cases e'
 obtain ⟨a, b, c, oe, vs, h1, h2, h3, h4⟩ := t
 refine ⟨key _ a, b, c, oe, vs, h1, h2, h3, ?_⟩
 cases h4 with
 | none q z => exact .none q z
 | some a b c d e f g k => exact .some a b (key _ c) d e f g k
inductive FrmOk (Φ : Fz) (ρ : List Addr) (h : Heap) (env : Env) : Prop
 | mk (k : env.scope.kind ≠ .module) (L : Addr) (o : Obj) (h1 : env.frame = some L) (h2 : h.get? L = some o) (h3 : ∀ vs, o.data ≠ .fields vs) (h4 : Φ L = none) (h5 : L ∉ ρ) : FrmOk Φ ρ h env
noncomputable def StackOk (l : List Env) (Φ : Fz) (ρ : List Addr) (h : Heap) : Prop := ∀ env ∈ l, FrmOk Φ ρ h env
noncomputable abbrev frs (l : List Env) : List Addr := l.filterMap (·.frame)
theorem StackOk.mem {l : List Env} {Φ : Fz} {ρ : List Addr} {h : Heap} (S : StackOk l Φ ρ h) {a : Addr} (ha : a ∈ frs l) : Φ a = none ∧ a ∉ ρ ∧ ∃ o, h.get? a = some o ∧ ∀ vs, o.data ≠ .fields vs := by
 obtain ⟨env, he, hf⟩ := List.mem_filterMap.mp ha
 obtain ⟨_, L, o, h1, h2, h3, h4, h5⟩ := S env he
 rw [h1] at hf; cases hf
 exact ⟨h4, h5, o, h2, h3⟩
theorem StackOk.fun {l : List Env} {Φ : Fz} {ρ : List Addr} {h : Heap} (S : StackOk l Φ ρ h) : h.FunFrames ⟨#[], {}⟩ l := by
 induction l with
 | nil => trivial
 | cons env l ih =>
  obtain ⟨hk, L, o, h1, h2, h3, _, _⟩ := S env List.mem_cons_self
  refine ⟨hk, ⟨L, o, h1, ?_, h2, h3⟩, ih fun e he => S e (List.mem_cons_of_mem _ he)⟩
  simp [Heap.get?]
theorem StackOk.kp {l : List Env} {Φ Φ' : Fz} {ρ : List Addr} {X : Addr → Prop} {fs : List Addr} {h h' : Heap} (S : StackOk l Φ ρ h) (k : Kp X fs h h') (hx : ∀ a ∈ frs l, ¬ X a) (hf : ∀ a o, h.get? a = some o → Φ' a = Φ a) : StackOk l Φ' ρ h' := by
 intro env he
 obtain ⟨hk, L, o, h1, h2, h3, h4, h5⟩ := S env he
 obtain ⟨sl, e⟩ := k.slots L o (hx L (List.mem_filterMap.mpr ⟨env, he, h1⟩)) h2
 exact ⟨hk, L, _, h1, e, h3, (hf L o h2).trans h4, h5⟩
theorem StackOk.step {l : List Env} {Φ Φ' : Fz} {ρ fs : List Addr} {h h' : Heap} (S : StackOk l Φ ρ h) (k : Step ρ fs Φ h Φ' h') : StackOk l Φ' ρ h' :=
 S.kp k.kp (fun a ha => (S.mem ha).2.1) k.fresh
section
variable {W : Wd} {A : Around} {E : Value → Shared → Prop} {s : Shared} {Φ Φ' : Fz} {ρ : List Addr} {σ : Store} {h : Heap} {L e : Addr}
theorem note_new {X : Addr → Prop} {env e0 : Env} {outer : List Env} {head : Value} {hadNext : Bool} {oe : Obj} {vs : Array Value} {Q : Unit → Shared → Prop} {h' : Heap}
  (hfr : A.frames = some (e0 :: outer)) (hf0 : e0.frame = some L) (hf : env.frame = some L) (hs : s.heap = h') (SO : StackOk (e0 :: outer) Φ' ρ h') (I : Inv W Φ' ρ σ h') (St : Kp X (frs (e0 :: outer)) h h')
  (new : h.get? e = none) (fz : Φ' e = none) (out : e ∉ ρ) (he : h'.get? e = some oe) (hc : oe.cls = .type "ValueError") (hd : oe.data = .fields vs) (hsz : 1 < vs.size)
  (hQ : ∀ h'', Inv W Φ' ρ σ h'' → Kp X (frs (e0 :: outer)) h h'' → StackOk (e0 :: outer) Φ' ρ h'' → Thrown Φ' ρ L h h'' e true → Q () { s with heap := h'' }) :
  wpAny (model W.prog W.w) A (do setField (.ref e) 1 (← EntryCells.newEntry head (← frameOf env) .none (rawInt L) .none (← entryPlaceOf L hadNext))) Q E s := by
 subst hs
 have hene : e ∉ frs (e0 :: outer) := fun hm => by
  obtain ⟨_, _, o, ho, hnf⟩ := SO.mem hm
  rw [he] at ho; cases ho; exact hnf vs hd
 have hframe : ∀ (Q' : Value → Shared → Prop), (∀ h₁, Heap.SlotsOnly (frs (e0 :: outer)) s.heap h₁ → Q' (.ref L) { s with heap := h₁ }) → wpAny (model W.prog W.w) A (frameOf env) Q' E s := by
  intro Q' hq
  unfold frameOf
  refine wpAny_bind (wpAny_frameEnvs hfr ?_)
  have hdw : ((e0 :: outer).dropWhile fun x => x.frame != env.frame) = e0 :: outer := by simp [List.dropWhile, hf0, hf]
  rw [hdw]
  unfold frameObject
  refine wpAny_bind (wpAny_bind (wpAny_readyFrames_fun SO.fun fun h₁ hs₁ => wpAny_pure ?_))
  rw [hf0]
  exact wpAny_pure (hq h₁ hs₁)
 refine wpAny_bind (hframe _ fun h₁ hs₁ => ?_)
 refine wpAny_bind (wpAny_entryPlaceOf fun pl hpl => ?_)
 unfold EntryCells.newEntry newFields
 refine wpAny_bind (wpAny_newObj_type ?_ (hpl.sizeOk5 _ _ _ _ _))
 generalize hob : ({ cls := .type "traceback", dict := none, data := .fields ([head, .ref L, .none, rawInt L, .none] ++ (if pl.isEmpty then List.replicate 6 Value.none else pl)).toArray } : Obj) = tb
 have he₁ : h₁.get? e = some oe := (hs₁.2.1 e hene).trans he
 have he₂ := Heap.get?_push_of_some (h := h₁) tb he₁
 refine wpAny_setField he₂ hd hsz ?_
 have hTe : h₁.objs.size ≠ e := Nat.ne_of_gt (Heap.lt_size he₁)
 have hd₃ := Obj.data_mapFields hd (·.setIfInBounds 1 (Value.ref h₁.objs.size))
 have he₃ := Heap.get?_update_self (Obj.mapFields (·.setIfInBounds 1 (Value.ref h₁.objs.size))) he₂ (Obj.isFreed_of_fields hd₃)
 have hfree : tb.isFreed = false := by rw [← hob]; rfl
 have hT₃ := (Heap.get?_update_other (h₁.push tb) (Obj.mapFields (·.setIfInBounds 1 (Value.ref h₁.objs.size))) (Ne.symm hTe)).trans (Heap.get?_push_size h₁ hfree)
 have hnew : ∀ a o, s.heap.get? a = some o → a ≠ h₁.objs.size := fun a o q => by rw [hs₁.1]; exact Nat.ne_of_lt (Heap.lt_size q)
 have hTn : s.heap.get? h₁.objs.size = none := by
  cases q : s.heap.get? h₁.objs.size with
  | none => rfl
  | some o => exact absurd rfl (hnew _ o q)
 have up : ∀ a o, a ≠ e → h₁.get? a = some o → ((h₁.push tb).update e (Obj.mapFields (·.setIfInBounds 1 (Value.ref h₁.objs.size)))).get? a = some o := fun a o hae q => by
  rw [Heap.get?_update_other _ _ (Ne.symm hae)]; exact Heap.get?_push_of_some _ q
 have same : ∀ a o, a ≠ e → a ∉ frs (e0 :: outer) → s.heap.get? a = some o → ((h₁.push tb).update e (Obj.mapFields (·.setIfInBounds 1 (Value.ref h₁.objs.size)))).get? a = some o := fun a o hae hnf q =>
  up a o hae ((hs₁.2.1 a hnf).trans q)
 have slot : ∀ a o, a ≠ e → s.heap.get? a = some o → ∃ sl, ((h₁.push tb).update e (Obj.mapFields (·.setIfInBounds 1 (Value.ref h₁.objs.size)))).get? a = some { o with slots := sl } := fun a o hae q => by
  obtain ⟨sl, q'⟩ := hs₁.2.2 a o q
  exact ⟨sl, up a _ hae q'⟩
 have live : ∀ a o, s.heap.get? a = some o → ∃ o', ((h₁.push tb).update e (Obj.mapFields (·.setIfInBounds 1 (Value.ref h₁.objs.size)))).get? a = some o' := fun a o q => by
  by_cases hae : a = e
  ·subst hae; exact ⟨_, he₃⟩
  ·obtain ⟨sl, q'⟩ := slot a o hae q; exact ⟨_, q'⟩
 have hne : ∀ a o, h.get? a = some o → a ≠ e := fun a o q r => by rw [r, new] at q; cases q
 refine hQ _ ⟨I.base, fun a o q => same a o (fun r => by rw [r, fz] at q; cases q) (fun r => by rw [(SO.mem r).1] at q; cases q) (I.frz a o q), I.len, fun n a c h1 h2 => ?_, I.nodup, I.apart⟩ ?_ ?_ ?_
 ·have ha : a ∈ ρ := List.mem_of_getElem? h1
  exact (I.cell n a c h1 h2).mono (fun _ _ q => q) fun o q => same a o (fun r => out (r ▸ ha)) (fun r => (SO.mem r).2.1 ha) q
 ·refine ⟨fun a o q => ?_, fun a o hx hn q => ?_, fun a o hx q => ?_⟩
  ·obtain ⟨o', q'⟩ := St.alive a o q; exact live a o' q'
  ·exact same a o (hne a o q) hn (St.keep a o hx hn q)
  ·obtain ⟨sl, q'⟩ := St.slots a o hx q
   obtain ⟨sl', q''⟩ := slot a _ (hne a o q) q'
   exact ⟨sl', q''⟩
 ·intro env' he'
  obtain ⟨k, L', o, p1, p2, p3, p4, p5⟩ := SO env' he'
  have : L' ≠ e := fun r => hene (r ▸ List.mem_filterMap.mpr ⟨env', he', p1⟩)
  obtain ⟨sl, q⟩ := slot L' o this p2
  exact ⟨k, L', _, p1, q, p3, p4, p5⟩
 ·refine ⟨new, fz, out, _, _, he₃, (Obj.cls_mapFields _ _).trans hc, hd₃, .some (T := h₁.objs.size) (oT := tb) (ts := ([head, .ref L, .none, rawInt L, .none] ++ (if pl.isEmpty then List.replicate 6 Value.none else pl)).toArray) (by simp [hsz]) hTe ?_ ?_ ?_ hT₃ (by rw [← hob]) (.inl (by simp))⟩
  ·cases q : h.get? h₁.objs.size with
   | none => rfl
   | some o => obtain ⟨o', q'⟩ := St.alive _ o q; rw [hTn] at q'; cases q'
  ·cases q : Φ' h₁.objs.size with
   | none => rfl
   | some o => rw [I.frz _ _ q] at hTn; cases hTn
  ·intro q
   obtain ⟨n, hn⟩ := List.getElem?_of_mem q
   have hlt : n < σ.length := by rw [← I.len]; exact (List.getElem?_eq_some_iff.mp hn).1
   obtain ⟨o, ho⟩ := (I.cell n _ σ[n] hn (by simp [hlt])).alive
   rw [hTn] at ho; cases ho
theorem note_ok {X : Addr → Prop} {env e0 : Env} {outer : List Env} {Q : Unit → Shared → Prop} {h' : Heap} {c : Bool}
  (hfr : A.frames = some (e0 :: outer)) (hf0 : e0.frame = some L) (hf : env.frame = some L) (hs : s.heap = h') (SO : StackOk (e0 :: outer) Φ' ρ h') (I : Inv W Φ' ρ σ h') (St : Kp X (frs (e0 :: outer)) h h')
  (T : Thrown Φ' ρ L h h' e c)
  (hQ : ∀ h'', Inv W Φ' ρ σ h'' → Kp X (frs (e0 :: outer)) h h'' → StackOk (e0 :: outer) Φ' ρ h'' → Thrown Φ' ρ L h h'' e true → Q () { s with heap := h'' }) :
  wpAny (model W.prog W.w) A (noteFrame (.ref e) env) Q E s := by
 subst hs
 obtain ⟨new, fz, out, oe, vs, he, hc, hd, tb⟩ := T
 unfold noteFrame
 simp only [hf]
 cases tb with
 | none _ h1 =>
  refine wpAny_bind (wpAny_field he hd h1 ?_)
  rw [if_neg (by decide)]
  exact note_new hfr hf0 hf rfl SO I St new fz out he hc hd (Array.getElem?_eq_some_iff.mp h1).1 hQ
 | some h1 hTe hTn hTf hTo hT hdT h3 =>
  rename_i T oT ts
  refine wpAny_bind (wpAny_field he hd h1 ?_)
  rw [if_pos (show (Value.ref T != Value.none) = true from by simp)]
  have h3 : ts[3]? = some (rawInt L) ∨ ∃ y, y ≠ rawInt L ∧ ts[3]? = some y := by
   rcases h3 with h3 | ⟨_, y, h3⟩
   ·exact .inl h3
   ·by_cases q : y = rawInt L
    ·exact .inl (q ▸ h3)
    ·exact .inr ⟨y, q, h3⟩
  rcases h3 with h3 | ⟨y, hy, h3⟩
  ·refine wpAny_bind (wpAny_field hT hdT h3 ?_)
   rw [if_pos (by simp)]
   refine wpAny_pure ?_
   have := hQ s.heap I St SO ⟨new, fz, out, oe, vs, he, hc, hd, .some h1 hTe hTn hTf hTo hT hdT (.inl h3)⟩
   exact this
  ·refine wpAny_bind (wpAny_field hT hdT h3 ?_)
   rw [if_neg (show ¬ ((y == rawInt L) = true) from by simpa using hy)]
   refine wpAny_bind (wpAny_setField hT hdT (Array.getElem?_eq_some_iff.mp h3).1 ?_)
   have hself := Heap.get?_update_self (Obj.mapFields (·.setIfInBounds 3 Value.none)) hT (Obj.isFreed_of_fields (Obj.data_mapFields hdT _))
   have other : ∀ b, b ≠ T → (s.heap.update T (Obj.mapFields (·.setIfInBounds 3 Value.none))).get? b = s.heap.get? b := fun b hb => Heap.get?_update_other _ _ (Ne.symm hb)
   have hTs : T ∉ frs (e0 :: outer) := fun hm => by
    obtain ⟨_, _, o, ho, hnf⟩ := SO.mem hm
    rw [hT] at ho; cases ho; exact hnf ts hdT
   refine note_new hfr hf0 hf rfl (Φ' := Φ') (σ := σ) (h := h) (X := X) (e := e) ?_ ?_ ?_ new fz out ((other e (Ne.symm hTe)).trans he) hc hd (Array.getElem?_eq_some_iff.mp h1).1 hQ
   ·intro env' he'
    obtain ⟨k, L', o, p1, p2, p3, p4, p5⟩ := SO env' he'
    have : L' ≠ T := fun r => hTs (r ▸ List.mem_filterMap.mpr ⟨env', he', p1⟩)
    exact ⟨k, L', o, p1, (other L' this).trans p2, p3, p4, p5⟩
   ·refine ⟨I.base, fun a o q => (other a fun r => by rw [r, hTf] at q; cases q).trans (I.frz a o q), I.len, fun n a c h1 h2 => ?_, I.nodup, I.apart⟩
    exact (I.cell n a c h1 h2).mono (fun _ _ q => q) fun o q => (other a fun r => hTo (r ▸ List.mem_of_getElem? h1)).trans q
   ·have ne : ∀ a o, h.get? a = some o → a ≠ T := fun a o q r => by rw [r, hTn] at q; cases q
    exact ⟨fun a o q => let ⟨o', q'⟩ := St.alive a o q; ⟨o', (other a (ne a o q)).trans q'⟩, fun a o hx hn q => (other a (ne a o q)).trans (St.keep a o hx hn q), fun a o hx q => let ⟨sl, q'⟩ := St.slots a o hx q; ⟨sl, (other a (ne a o q)).trans q'⟩⟩
theorem flight_ok {X : Addr → Prop} {l : List Env} {Q : Unit → Shared → Prop} {h' : Heap} (fl : Option Addr)
  (hs : s.heap = h') (SO : StackOk l Φ' ρ h') (I : Inv W Φ' ρ σ h') (St : Kp X (frs l) h h') (T : Thrown Φ' ρ L h h' e true)
  (hQ : ∀ h'', Inv W Φ' ρ σ h'' → Kp X (frs l) h h'' → StackOk l Φ' ρ h'' → (∀ L', Thrown Φ' ρ L' h h'' e false) → (fl = some L → Thrown Φ' ρ L h h'' e true) → Q () { s with heap := h'' }) :
  wpAny (model W.prog W.w) A (setFlight (.ref e) fl) Q E s := by
 subst hs
 obtain ⟨new, fz, out, oe, vs, he, hc, hd, tb⟩ := T
 cases tb with
 | none q _ => cases q
 | some h1 hTe hTn hTf hTo hT hdT h3 =>
  rename_i T oT ts
  have h3' : 3 < ts.size := by rcases h3 with h3 | ⟨q, _⟩; exact (Array.getElem?_eq_some_iff.mp h3).1; cases q
  unfold setFlight
  refine wpAny_bind (wpAny_field he hd h1 ?_)
  rw [if_pos (show (Value.ref T != Value.none) = true from by simp)]
  refine wpAny_setField hT hdT h3' ?_
  have hTs : T ∉ frs l := fun hm => by
   obtain ⟨_, _, o, ho, hnf⟩ := SO.mem hm
   rw [hT] at ho; cases ho; exact hnf ts hdT
  generalize hmk : fl.elim Value.none (fun f => rawInt f) = mk
  have hself := Heap.get?_update_self (Obj.mapFields (·.setIfInBounds 3 mk)) hT (Obj.isFreed_of_fields (Obj.data_mapFields hdT _))
  have other : ∀ b, b ≠ T → (s.heap.update T (Obj.mapFields (·.setIfInBounds 3 mk))).get? b = s.heap.get? b := fun b hb => Heap.get?_update_other _ _ (Ne.symm hb)
  have ne : ∀ a o, h.get? a = some o → a ≠ T := fun a o q r => by rw [r, hTn] at q; cases q
  refine hQ _ ?_ ?_ ?_ ?_ ?_
  ·refine ⟨I.base, fun a o q => (other a fun r => by rw [r, hTf] at q; cases q).trans (I.frz a o q), I.len, fun n a c h1 h2 => ?_, I.nodup, I.apart⟩
   exact (I.cell n a c h1 h2).mono (fun _ _ q => q) fun o q => (other a fun r => hTo (r ▸ List.mem_of_getElem? h1)).trans q
  ·exact ⟨fun a o q => let ⟨o', q'⟩ := St.alive a o q; ⟨o', (other a (ne a o q)).trans q'⟩, fun a o hx hn q => (other a (ne a o q)).trans (St.keep a o hx hn q), fun a o hx q => let ⟨sl, q'⟩ := St.slots a o hx q; ⟨sl, (other a (ne a o q)).trans q'⟩⟩
  ·intro env' he'
   obtain ⟨k, L', o, p1, p2, p3, p4, p5⟩ := SO env' he'
   have : L' ≠ T := fun r => hTs (r ▸ List.mem_filterMap.mpr ⟨env', he', p1⟩)
   exact ⟨k, L', o, p1, (other L' this).trans p2, p3, p4, p5⟩
  ·intro L'
   exact ⟨new, fz, out, oe, vs, (other e (Ne.symm hTe)).trans he, hc, hd, .some h1 hTe hTn hTf hTo hself (Obj.data_mapFields hdT _) (.inr ⟨rfl, mk, by simp [h3']⟩)⟩
  ·rintro rfl
   have : mk = rawInt L := hmk.symm
   subst this
   exact ⟨new, fz, out, oe, vs, (other e (Ne.symm hTe)).trans he, hc, hd, .some h1 hTe hTn hTf hTo hself (Obj.data_mapFields hdT _) (.inl (by simp [h3']))⟩
theorem leave_ok {X : Addr → Prop} {env e0 : Env} {outer : List Env} {Q : Unit → Shared → Prop} {h' : Heap} {c : Bool}
  (hfr : A.frames = some (e0 :: outer)) (hf0 : e0.frame = some L) (hf : env.frame = some L) (hs : s.heap = h') (SO : StackOk (e0 :: outer) Φ' ρ h') (I : Inv W Φ' ρ σ h') (St : Kp X (frs (e0 :: outer)) h h')
  (T : Thrown Φ' ρ L h h' e c)
  (hQ : ∀ h'', Inv W Φ' ρ σ h'' → Kp X (frs (e0 :: outer)) h h'' → StackOk (e0 :: outer) Φ' ρ h'' → (∀ L', Thrown Φ' ρ L' h h'' e false) → Q () { s with heap := h'' }) :
  wpAny (model W.prog W.w) A (leaving env (.ref e)) Q E s := by
 unfold leaving
 refine wpAny_bind (note_ok hfr hf0 hf hs SO I St T fun h₁ I₁ K₁ S₁ T₁ => ?_)
 exact flight_ok (s := { s with heap := h₁ }) none rfl S₁ I₁ K₁ T₁ fun h₂ I₂ K₂ S₂ T₂ _ => hQ h₂ I₂ K₂ S₂ T₂
theorem own_ok {X : Addr → Prop} {env e0 : Env} {outer : List Env} {h' : Heap} {c : Bool} {R : Value → Shared → Prop}
  (hfr : A.frames = some (e0 :: outer)) (hf0 : e0.frame = some L) (hf : env.frame = some L) (hs : s.heap = h') (SO : StackOk (e0 :: outer) Φ' ρ h') (I : Inv W Φ' ρ σ h') (St : Kp X (frs (e0 :: outer)) h h')
  (T : Thrown Φ' ρ L h h' e c)
  (hQ : ∀ h'', Inv W Φ' ρ σ h'' → Kp X (frs (e0 :: outer)) h h'' → StackOk (e0 :: outer) Φ' ρ h'' → Thrown Φ' ρ L h h'' e true → R (.ref e) { s with heap := h'' }) :
  notedBy (model W.prog W.w) A env (cameBackBy (model W.prog W.w) A env R) (.ref e) s := by
 refine note_ok hfr hf0 hf hs SO I St T fun h₁ I₁ K₁ S₁ T₁ => ?_
 show wpAny _ _ _ _ _ _
 have T₁' := T₁
 obtain ⟨_, _, _, oe, vs, he, _, hd, tb⟩ := T₁'
 cases tb with
 | none q _ => cases q
 | some h1 =>
  refine wpAny_bind (wpAny_field (s := { s with heap := h₁ }) he hd h1 ?_)
  rw [if_neg (by simp)]
  have := flight_ok (s := { s with heap := h₁ }) (A := A) (E := R) (Q := fun _ s'' => R (.ref e) s'') (some L) rfl S₁ I₁ K₁ T₁ fun h₂ I₂ K₂ S₂ _ T₂ => hQ h₂ I₂ K₂ S₂ (T₂ rfl)
  rw [hf]
  first
   | exact wpAny_bind (wpAny_pure this)
   | exact this
end
end Holk
namespace Holk
open PySem PyProof.Rows
theorem sizeLine_is : sizeLine = 16777216 := by decide
theorem lim_le : lim ≤ sizeLine := by decide
noncomputable def Fz.add (Φ : Fz) (a : Addr) (o : Obj) : Fz := fun b => if b = a then some o else Φ b
section
variable {W : Wd} {A : Around} {E : Value → Shared → Prop} {s : Shared} {Φ : Fz} {ρ fs : List Addr} {σ : Store} {h : Heap}
theorem Heap.get?_size (h : Heap) : h.get? h.objs.size = none := by
 cases e : h.get? h.objs.size with
 | none => rfl
 | some o => exact absurd (Heap.lt_size e) (Nat.lt_irrefl _)
theorem Inv.unfrozen (I : Inv W Φ ρ σ h) {a : Addr} (ha : h.get? a = none) : Φ a = none := by
 cases e : Φ a with
 | none => rfl
 | some o => rw [I.frz a o e] at ha; cases ha
theorem Inv.live (I : Inv W Φ ρ σ h) {a : Addr} (ha : a ∈ ρ) : ∃ o, h.get? a = some o := by
 obtain ⟨n, hn⟩ := List.getElem?_of_mem ha
 have hlt : n < σ.length := by rw [← I.len]; exact (List.getElem?_eq_some_iff.mp hn).1
 exact (I.cell n _ σ[n] hn (by simp [hlt])).alive
theorem Inv.ext (I : Inv W Φ ρ σ h) {h' : Heap} (k : ∀ a o, h.get? a = some o → h'.get? a = some o) : Inv W Φ ρ σ h' :=
 ⟨I.base, fun a o e => k a o (I.frz a o e), I.len, fun n a c h1 h2 => (I.cell n a c h1 h2).mono (fun _ _ q => q) (fun o q => k a o q), I.nodup, I.apart⟩
theorem Inv.freeze (I : Inv W Φ ρ σ h) {h' : Heap} (k : ∀ a o, h.get? a = some o → h'.get? a = some o) {a : Addr} {o : Obj} (ha : h.get? a = none) (ho : h'.get? a = some o) :
  Inv W (Φ.add a o) ρ σ h' ∧ Step ρ fs Φ h (Φ.add a o) h' := by
 have hΦ := I.unfrozen ha
 have ext : ∀ b o', Φ b = some o' → (Φ.add a o) b = some o' := fun b o' e => by
  have : b ≠ a := by rintro rfl; rw [hΦ] at e; cases e
  simp [Fz.add, this, e]
 refine ⟨⟨fun b o' e => ext b o' (I.base b o' e), fun b o' e => ?_, I.len, fun n b c h1 h2 => (I.cell n b c h1 h2).mono ext (fun o q => k b o q), I.nodup, fun b hb => ?_⟩, ext, fun b o' e => ?_, .of_ext k⟩
 ·by_cases q : b = a
  ·subst q; simp [Fz.add] at e; subst e; exact ho
  ·simp [Fz.add, q] at e; exact k _ _ (I.frz b o' e)
 ·have : b ≠ a := by rintro rfl; obtain ⟨o', e⟩ := I.live hb; rw [ha] at e; cases e
  simp [Fz.add, this, I.apart b hb]
 ·have : b ≠ a := by rintro rfl; rw [ha] at e; cases e
  simp [Fz.add, this]
theorem Fz.add_self (Φ : Fz) (a : Addr) (o : Obj) : (Φ.add a o) a = some o := by simp [Fz.add]
theorem push_keep (h : Heap) (o : Obj) : ∀ a o', h.get? a = some o' → (h.push o).get? a = some o' := fun _ _ e => Heap.get?_push_of_some _ e
theorem tup_new (I : Inv W Φ ρ σ s.heap) {vs : List Value} {xs : List PyData} (r : RDs Φ vs xs) {Q : Value → Shared → Prop}
  (hQ : ∀ Φ', Inv W Φ' ρ σ (s.heap.push (tupO vs 0)) → Step ρ fs Φ s.heap Φ' (s.heap.push (tupO vs 0)) → RD Φ' (.ref s.heap.objs.size) (.tuple xs) → Q (.ref s.heap.objs.size) { s with heap := s.heap.push (tupO vs 0) }) :
  Q (.ref s.heap.objs.size) { s with heap := s.heap.push (tupO vs 0) } := by
 obtain ⟨a, b⟩ := I.freeze (fs := fs) (push_keep s.heap (tupO vs 0)) (Heap.get?_size _) (Heap.get?_push_size s.heap (o := tupO vs 0) rfl)
 exact hQ _ a b (.tuple (Fz.add_self ..) (r.mono b.ext))
theorem lst_new (I : Inv W Φ ρ σ s.heap) {vs : List Value} {xs : List PyData} (r : RDs Φ vs xs) {Q : Value → Shared → Prop}
  (hQ : ∀ Φ', Inv W Φ' ρ σ (s.heap.push (lstO vs 0)) → Step ρ fs Φ s.heap Φ' (s.heap.push (lstO vs 0)) → RD Φ' (.ref s.heap.objs.size) (.list xs) → Q (.ref s.heap.objs.size) { s with heap := s.heap.push (lstO vs 0) }) :
  Q (.ref s.heap.objs.size) { s with heap := s.heap.push (lstO vs 0) } := by
 obtain ⟨a, b⟩ := I.freeze (fs := fs) (push_keep s.heap (lstO vs 0)) (Heap.get?_size _) (Heap.get?_push_size s.heap (o := lstO vs 0) rfl)
 exact hQ _ a b (.list (Fz.add_self ..) (r.mono b.ext))
noncomputable def cmOp : Cm → CmpOp
 | .eq => .Eq | .ne => .NotEq | .lt => .Lt | .le => .LtE | .gt => .Gt | .ge => .GtE | .is => .Is | .isNot => .IsNot | .mem => .In | .nmem => .NotIn
noncomputable def op2 : Op2 → Operator
 | .add => .Add | .sub => .Sub | .mod => .Mod | .mul => .Mult
theorem min_lt {A : Around} (hu : A.units + 1100 < cLine) {a b : Nat} (h : b ≤ dlim ∨ a ≤ dlim) : A.units + min a b < cLine := by
 have h1 := Nat.min_le_left a b
 have h2 := Nat.min_le_right a b
 have h3 : dlim = 1000 := rfl
 rcases h with h | h <;> lia
theorem min_lt1 {A : Around} (hu : A.units + 1100 < cLine) {a b : Nat} (h : b ≤ dlim ∨ a ≤ dlim) : A.units + 1 + min a b < cLine := by
 have h1 := Nat.min_le_left a b
 have h2 := Nat.min_le_right a b
 have h3 : dlim = 1000 := rfl
 rcases h with h | h <;> lia
theorem lay_all {xs : List PyData} (h : (PyData.list xs).canLay0 = true) : PyData.canLayAll0 xs = true := h
theorem lay_tup {xs : List PyData} (h : (PyData.tuple xs).canLay0 = true) : PyData.canLayAll0 xs = true := h
theorem beq_bools (a b : Bool) : (Value.bool a == Value.bool b) = (a == b) := by cases a <;> cases b <;> rfl
theorem same_bools (a b : Bool) : isSame (.bool a) (.bool b) = pure (a == b) := by cases a <;> cases b <;> rfl
theorem isN_iff {y : PyData} {r : Bool} (h : isN y = some r) : y = .none ∧ r = false := by
 cases y with
 | none => cases h; exact ⟨rfl, rfl⟩
 | _ => cases h
theorem same_none (I : Inv W Φ ρ σ s.heap) {a b : Value} {x y : PyData} {r : Bool} (ra : RT s.heap Φ a x) (rb : RT s.heap Φ b y) (e : isOp x y = some r) : isSame a b = pure r := by
 cases x with
 | none =>
  rw [ra.none]
  cases y with
  | none => cases e; rw [rb.none]; rfl
  | bool b => cases e; rw [rb.bool]; rfl
  | _ => cases e
 | bool a =>
  rw [ra.bool]
  cases y with
  | none => cases e; rw [rb.none]; rfl
  | bool b => cases e; rw [rb.bool]; exact same_bools a b
  | _ => cases e
 | list xs =>
  obtain ⟨rfl, rfl⟩ := isN_iff e
  obtain ⟨a, vs, n, rfl, _, _⟩ := ra.list I.frz; rw [rb.none]; rfl
 | tuple xs =>
  obtain ⟨rfl, rfl⟩ := isN_iff e
  obtain ⟨a, vs, n, rfl, _, _⟩ := ra.tuple I.frz; rw [rb.none]; rfl
 | _ => cases e
theorem mem_iff {x y : PyData} {r : Bool} (h : memOp x y = some r) : ∃ xs, (y = .list xs ∨ y = .tuple xs) ∧ (x.depth ≤ dlim ∨ PyData.depthAll xs ≤ dlim) ∧ (xs.any fun y => PyData.eqv y x) = r := by
 cases y with
 | list xs => exact ⟨xs, .inl rfl, ite_iff h⟩
 | tuple xs => exact ⟨xs, .inr rfl, ite_iff h⟩
 | _ => cases h
theorem cmp_ok (I : Inv W Φ ρ σ s.heap) (hu : A.units + 1100 < cLine) {op : Cm} {a b : Value} {x y : PyData} {r : Bool} (ra : RT s.heap Φ a x) (rb : RT s.heap Φ b y) (e : cmpOp op x y = some r) {Q : Value → Shared → Prop}
  (hQ : Q (.bool r) s) : wpAny (model W.prog W.w) A (compareOp (cmOp op) a b) Q E s := by
 obtain ⟨as, q⟩ := ra.reads I.frz
 obtain ⟨bs, p⟩ := rb.reads I.frz
 cases op with
 | eq =>
  obtain ⟨hd, rfl⟩ := ite_iff e
  exact SeqAt.compareEq_reads q p ra.lay rb.lay (min_lt hu hd) hQ
 | ne =>
  obtain ⟨hd, rfl⟩ := ite_iff e
  exact SeqAt.compareNe_reads q p ra.lay rb.lay (min_lt hu hd) hQ
 | lt => obtain ⟨i, j, rfl, rfl, rfl⟩ := intC_iff e; obtain ⟨t, rfl⟩ := ra.int; obtain ⟨u, rfl⟩ := rb.int; exact P.lt_int hQ
 | le => obtain ⟨i, j, rfl, rfl, rfl⟩ := intC_iff e; obtain ⟨t, rfl⟩ := ra.int; obtain ⟨u, rfl⟩ := rb.int; exact P.le_int hQ
 | gt => obtain ⟨i, j, rfl, rfl, rfl⟩ := intC_iff e; obtain ⟨t, rfl⟩ := ra.int; obtain ⟨u, rfl⟩ := rb.int; exact P.gt_int hQ
 | ge => obtain ⟨i, j, rfl, rfl, rfl⟩ := intC_iff e; obtain ⟨t, rfl⟩ := ra.int; obtain ⟨u, rfl⟩ := rb.int; exact P.ge_int hQ
 | is =>
  show wpAny _ _ (isSame a b >>= fun c => pure (Value.bool c)) _ _ _
  rw [same_none I ra rb e]; exact wpAny_bind (wpAny_pure (wpAny_pure hQ))
 | isNot =>
  obtain ⟨c, e', rfl⟩ := map_iff e
  show wpAny _ _ (isSame a b >>= fun c => pure (Value.bool (!c))) _ _ _
  rw [same_none I ra rb e']; exact wpAny_bind (wpAny_pure (wpAny_pure hQ))
 | mem =>
  obtain ⟨xs, h, hd, rfl⟩ := mem_iff e
  rcases h with rfl | rfl
  ·exact SeqAt.in_list_reads p q (lay_all rb.lay) ra.lay (min_lt1 hu hd) hQ
  ·exact SeqAt.in_tuple_reads p q (lay_tup rb.lay) ra.lay (min_lt1 hu hd) hQ
 | nmem =>
  obtain ⟨c, e', rfl⟩ := map_iff e
  obtain ⟨xs, h, hd, rfl⟩ := mem_iff e'
  rcases h with rfl | rfl
  ·exact SeqAt.notIn_list_reads p q (lay_all rb.lay) ra.lay (min_lt1 hu hd) hQ
  ·exact SeqAt.notIn_tuple_reads p q (lay_tup rb.lay) ra.lay (min_lt1 hu hd) hQ
theorem strOk_app {p q : Str} (k1 : PyData.strOk p = true) (k2 : PyData.strOk q = true) : PyData.strOk (p ++ q) = true := by
 show (p.cps ++ q.cps).all _ = true
 unfold PyData.strOk at k1 k2
 simp [k1, k2]
theorem str_nil {p : Str} (h : p.length = 0) : p = ⟨#[]⟩ := by
 cases p with | mk c => exact congrArg Str.mk (Array.eq_empty_of_size_eq_zero h)
theorem str_nil_app (q : Str) : (⟨#[]⟩ : Str) ++ q = q := by show Str.mk (#[] ++ q.cps) = q; rw [Array.empty_append]
theorem str_app_nil (q : Str) : q ++ (⟨#[]⟩ : Str) = q := by show Str.mk (q.cps ++ #[]) = q; rw [Array.append_empty]
theorem str_len (p q : Str) : (p ++ q).length = p.length + q.length := Array.size_append
theorem bin_ok (I : Inv W Φ ρ σ s.heap) {op : Op2} {a b : Value} {x y r : PyData} (ra : RT s.heap Φ a x) (rb : RT s.heap Φ b y) (e : binOp op x y = some r) {Q : Value → Shared → Prop}
  (hQ : ∀ v Φ' h' k, Inv W Φ' ρ σ h' → Step ρ fs Φ s.heap Φ' h' → RD Φ' v r → Q v { s with heap := h', toks := k }) : wpAny (model W.prog W.w) A (binaryOp (op2 op) a b) Q E s := by
 have same : ∀ v k, RD Φ v r → Q v { s with toks := k } := fun v k q => hQ v Φ s.heap k I (.refl ..) q
 cases op with
 | add =>
  cases x with
  | int i =>
   obtain ⟨j, hj, rfl⟩ := map_iff e
   obtain rfl := dInt_iff hj
   obtain ⟨t, rfl⟩ := ra.int; obtain ⟨u, rfl⟩ := rb.int; exact P.add_int (same _ _ (.int _ _))
  | str p =>
   obtain ⟨q, hq, e⟩ := bnd_iff e
   obtain rfl := dStr_iff hq
   obtain ⟨hl, rfl⟩ := ite_iff e
   obtain ⟨t, rfl, k1⟩ := ra.str; obtain ⟨u, rfl, k2⟩ := rb.str
   refine P.add_str ?_
   split
   ·rename_i h0
    obtain rfl := str_nil (beq_iff_eq.mp h0)
    rw [str_nil_app] at same
    exact same _ s.toks (.str _ _ k2)
   ·split
    ·rename_i h0
     obtain rfl := str_nil (beq_iff_eq.mp h0)
     rw [str_app_nil] at same
     exact same _ s.toks (.str _ _ k1)
    ·exact ⟨by show (p ++ q).length ≤ sizeLine; rw [str_len]; exact Nat.le_trans hl lim_le, same _ _ (.str _ _ (strOk_app k1 k2))⟩
  | list xs =>
   obtain ⟨ys, hq, e⟩ := bnd_iff e
   obtain rfl := dLst_iff hq
   obtain ⟨hl, rfl⟩ := ite_iff e
   obtain ⟨a, vs, n, rfl, ha, rs⟩ := ra.list I.frz; obtain ⟨b, ws, m, rfl, hb, qs⟩ := rb.list I.frz
   refine P.add_list (n := n) (n2 := m) ha hb ?_ (by rw [List.size_toArray, List.size_toArray, rs.length, qs.length]; exact Nat.le_trans hl lim_le)
   have := lst_new (fs := fs) I (rs.append qs) (Q := Q) fun Φ' I' S' R' => hQ _ Φ' _ s.toks I' S' R'
   rw [List.append_toArray]
   exact this
  | tuple xs =>
   obtain ⟨ys, hq, e⟩ := bnd_iff e
   obtain rfl := dTup_iff hq
   obtain ⟨hl, rfl⟩ := ite_iff e
   obtain ⟨a, vs, n, rfl, ha, rs⟩ := ra.tuple I.frz; obtain ⟨b, ws, m, rfl, hb, qs⟩ := rb.tuple I.frz
   by_cases h1 : vs = []
   ·subst h1
    cases rs
    cases rb with
     | frz rb =>
      exact concat_meets ⟨_, ha, rfl⟩ ⟨_, hb, rfl⟩ noFill_tuple_add seq_tuple_add PySem.F.slot_tuple_add PySem.F.entry_tuple_add (PySem.F.args_tuple_add_2 _ _) (tuple_addW0 a b _ _ n m none none #[] #[] (by simp)) ⟨ha, hb, same _ s.toks rb⟩
   ·by_cases h2 : ws = []
    ·subst h2
     cases qs
     rw [List.append_nil] at same
     cases ra with
     | frz ra =>
      exact concat_meets ⟨_, ha, rfl⟩ ⟨_, hb, rfl⟩ noFill_tuple_add seq_tuple_add PySem.F.slot_tuple_add PySem.F.entry_tuple_add (PySem.F.args_tuple_add_2 _ _) (tuple_addW1 a b _ _ n m none none #[] #[] (by simpa using h1) (by simp)) ⟨ha, hb, same _ s.toks ra⟩
    ·refine P.add_tuple (n := n) (n2 := m) ha hb (by simpa using h1) (by simpa using h2) ?_ (by rw [List.size_toArray, List.size_toArray, rs.length, qs.length]; exact Nat.le_trans hl lim_le)
     have := tup_new (fs := fs) I (rs.append qs) (Q := Q) fun Φ' I' S' R' => hQ _ Φ' _ s.toks I' S' R'
     rw [List.append_toArray]
     exact this
  | _ => cases e
 | sub =>
  obtain ⟨i, hi, e⟩ := bnd_iff e
  obtain ⟨j, hj, rfl⟩ := map_iff e
  obtain rfl := dInt_iff hi
  obtain rfl := dInt_iff hj
  obtain ⟨t, rfl⟩ := ra.int; obtain ⟨u, rfl⟩ := rb.int; exact P.sub_int (same _ _ (.int _ _))
 | mod =>
  obtain ⟨i, hi, e⟩ := bnd_iff e
  obtain ⟨j, hj, e⟩ := bnd_iff e
  obtain rfl := dInt_iff hi
  obtain rfl := dInt_iff hj
  obtain ⟨hb, rfl⟩ := ite_iff e
  obtain ⟨t, rfl⟩ := ra.int; obtain ⟨u, rfl⟩ := rb.int; exact PyProof.Rows.mod_int (Int.ne_of_gt hb) (same _ _ (.int _ _))
 | mul => cases e
theorem let_go {e : Expr} {o r : Value} {Q : Unit → Shared → Prop} (ho : (∃ a, o = .ref a) ∨ ∃ x t, o = .str x t) (h : Q () s) : wpAny (model W.prog W.w) A (letTemporaryGo e o r) Q E s := by
 have p : wpAny (model W.prog W.w) A (pure () : Sem Unit) Q E s := wpAny_pure h
 have k : wpAny (model W.prog W.w) A (do let _ ← holding [r] (runValue (.builtin "proto.let_go" {}))) Q E s := wpAny_bind (wpAny_holding (wpAny_runValue (codeAny_builtin entry_let_go (show wpAny _ _ (ret .none) _ _ s from wpAny_pure (wpAny_pure h)))))
 rcases ho with ⟨a, rfl⟩ | ⟨x, t, rfl⟩
 ·cases e with
  | Name => exact p
  | _ => exact k
 ·cases e <;> exact p
theorem sub_tail {value slice : Expr} {o i : Value} {T id : String} {Q : Value → Shared → Prop} (ho : (∃ a, o = .ref a) ∨ ∃ x t, o = .str x t) (hT : s.TypeIs o T)
  (hl : typeLookup (.type T) "__getitem__" = pure (some (.builtin id))) (h : wpAny (model W.prog W.w) A (getItem o i) Q E s)
  (hs : subscripted slice false o i = operate [o, i] (getItem o i)) :
  wpAny (model W.prog W.w) A (subscriptTail value slice o i) Q E s := by
 unfold subscriptTail
 refine wpAny_bind ?_
 rw [getitemInPython_of_ne hT.not_modules]
 refine wpAny_bind (wpAny_specialOf hT hl ?_)
 have fin : wpAny (model W.prog W.w) A (subscripted slice false o i) (fun r s₃ => wpAny (model W.prog W.w) A (letTemporaryGo value o r >>= fun _ => pure r) Q E s₃) E s := by
  rw [hs]
  exact wpAny_operating (wpAny_mono h (fun r s₃ h₃ => wpAny_bind (let_go ho (wpAny_pure h₃))) fun _ _ x => x)
 first
  | exact wpAny_pure (wpAny_bind fin)
  | exact wpAny_bind (wpAny_pure (wpAny_bind fin))
  | exact wpAny_bind fin
theorem idx_int {i : Int} {f : Nat → Option PyData} {r : PyData} (h : ((at0 i).bind fun n => f n) = some r) : (0 ≤ i ∧ i < 4611686018427387904) ∧ f i.toNat = some r := by
 cases i with
 | ofNat n =>
  simp only [at0] at h
  split at h
  ·rename_i hl
   have : lim = 1048576 := rfl
   exact ⟨⟨Int.natCast_nonneg n, by show (n : Int) < _; lia⟩, h⟩
  ·cases h
 | negSucc n => simp [at0] at h
theorem idx_ok (I : Inv W Φ ρ σ s.heap) {value slice : Expr} {a b : Value} {x y r : PyData} (ra : RT s.heap Φ a x) (rb : RT s.heap Φ b y) (e : idxOp x y = some r) {Q : Value → Shared → Prop}
  (hs : ∀ o i, subscripted slice false o i = operate [o, i] (getItem o i))
  (hQ : ∀ v k, RD Φ v r → Q v { s with toks := k }) : wpAny (model W.prog W.w) A (subscriptTail value slice a b) Q E s := by
 obtain ⟨i, hi, e⟩ := bnd_iff e
 obtain rfl := dInt_iff hi
 obtain ⟨⟨h0, h1⟩, e⟩ := idx_int (f := fun n => atD n x) e
 obtain ⟨u, rfl⟩ := rb.int
 cases x with
 | str x =>
  obtain ⟨t, rfl, k1⟩ := ra.str
  obtain ⟨c, hc, rfl⟩ := map_iff e
  have hlt : i.toNat < x.cps.size := (Array.getElem?_eq_some_iff.mp hc).1
  refine sub_tail (.inr ⟨_, _, rfl⟩) (typeIs_str s x t) PySem.F.slot_str_getitem.lookup (P.getItem_str (c := c) ?_ ?_ (hQ _ _ (.str _ _ ?_))) (hs _ _)
  ·simp; (apply And.intro <;> lia)
  ·have hx : x.length = x.cps.size := rfl
   rw [seqIndex_of h0 (by rw [hx]; lia)]
   simpa using hc
  ·unfold PyData.strOk at k1 ⊢
   have := Array.all_eq_true.mp k1 i.toNat hlt
   obtain ⟨h2, h3⟩ := Array.getElem?_eq_some_iff.mp hc
   rw [h3] at this
   simpa using this
 | list xs =>
  obtain ⟨a, vs, n, rfl, ha, rs⟩ := ra.list I.frz
  obtain ⟨v, hv, rv⟩ := rs.get e
  exact sub_tail (.inl ⟨_, rfl⟩) ⟨_, ha, rfl⟩ slot_list_getitem.lookup (wpAny_getItem_list ⟨_, ha, rfl, n, rfl⟩ h0 (by lia) (by simpa using hv) (hQ v s.toks rv)) (hs _ _)
 | tuple xs =>
  obtain ⟨a, vs, n, rfl, ha, rs⟩ := ra.tuple I.frz
  obtain ⟨v, hv, rv⟩ := rs.get e
  have hlt : i.toNat < vs.length := (List.getElem?_eq_some_iff.mp hv).1
  refine sub_tail (.inl ⟨_, rfl⟩) ⟨_, ha, rfl⟩ slot_tuple_getitem.lookup (P.getItem_tuple (n := n) (k := i.toNat) ha (by lia) (by lia) ?_ (by simpa using hv) (hQ v s.toks rv)) (hs _ _)
  rw [List.size_toArray]
  exact seqIndex_of h0 (by lia)
 | _ => cases e
end
end Holk
namespace Holk
open PySem PyProof.Rows
noncomputable def SimP (W : Wd) (l : List Env) (L : Addr) (ρ : List Addr) {α β : Type} (P : (α → Shared → Prop) → (Value → Shared → Prop) → Shared → Prop) (Φ : Fz) (s : Shared) (R : Res β) (Rel : Fz → α → β → Prop) : Prop :=
 ∀ (Q : α → Shared → Prop) (E : Value → Shared → Prop), R ≠ .stuck →
  (∀ a b σ' Φ' h' k, R = .ok b σ' → Inv W Φ' ρ σ' h' → Step ρ (frs l) Φ s.heap Φ' h' → Rel Φ' a b → Q a { s with heap := h', toks := k }) →
  (∀ e σ' Φ' h' k, R = .err σ' → Inv W Φ' ρ σ' h' → Step ρ (frs l) Φ s.heap Φ' h' → Thrown Φ' ρ L s.heap h' e false → E (.ref e) { s with heap := h', toks := k }) →
  P Q E s
noncomputable abbrev Sim (W : Wd) (A : Around) (l : List Env) (L : Addr) (ρ : List Addr) {α β : Type} (t : Sem α) (Φ : Fz) (s : Shared) (R : Res β) (Rel : Fz → α → β → Prop) : Prop :=
 SimP W l L ρ (fun Q E s => wpAny (model W.prog W.w) A t Q E s) Φ s R Rel
section
variable {W : Wd} {A : Around} {l : List Env} {L : Addr} {ρ : List Addr} {α β γ δ : Type} {Φ : Fz} {s : Shared}
theorem SimP.of {P P' : (α → Shared → Prop) → (Value → Shared → Prop) → Shared → Prop} {R : Res β} {Rel : Fz → α → β → Prop} (hP : ∀ Q E, P' Q E s → P Q E s) (H : SimP W l L ρ P' Φ s R Rel) : SimP W l L ρ P Φ s R Rel :=
 fun Q E hns hok herr => hP Q E (H Q E hns hok herr)
theorem SimP.seq {t : Sem α} {P2 : α → (γ → Shared → Prop) → (Value → Shared → Prop) → Shared → Prop} {R : Res β} {g : β → Store → Res δ} {Rel : Fz → α → β → Prop} {Rel' : Fz → γ → δ → Prop}
  (H : Sim W A l L ρ t Φ s R Rel)
  (H2 : ∀ a b σ' Φ' h' k, R = .ok b σ' → Inv W Φ' ρ σ' h' → Step ρ (frs l) Φ s.heap Φ' h' → Rel Φ' a b → SimP W l L ρ (P2 a) Φ' { s with heap := h', toks := k } (g b σ') Rel') :
  SimP W l L ρ (fun Q E s => wpAny (model W.prog W.w) A t (fun a s' => P2 a Q E s') E s) Φ s (R.bind g) Rel' := by
 intro Q E hns hok herr
 refine H _ _ (fun q => hns (by rw [q]; rfl)) (fun a b σ' Φ' h' k e I S r => ?_) fun x σ' Φ' h' k e I S T => herr x σ' Φ' h' k (by rw [e]; rfl) I S T
 subst e
 refine H2 a b σ' Φ' h' k rfl I S r Q E hns (fun a' b' σ'' Φ'' h'' k' e' I' S' r' => hok a' b' σ'' Φ'' h'' k' e' I' (S.trans S') r') fun x σ'' Φ'' h'' k' e' I' S' T' => herr x σ'' Φ'' h'' k' e' I' (S.trans S') (T'.back S.kp.alive)
theorem SimP.opt {P : (α → Shared → Prop) → (Value → Shared → Prop) → Shared → Prop} {σ : Store} {o : Option γ} {g : γ → Store → Res β} {Rel : Fz → α → β → Prop}
  (H : ∀ x, o = some x → SimP W l L ρ P Φ s (g x σ) Rel) : SimP W l L ρ P Φ s ((Res.of σ o).bind g) Rel := by
 cases o with
 | none => intro Q E hns; exact absurd rfl hns
 | some x => exact H x rfl
theorem SimP.ok {P : (α → Shared → Prop) → (Value → Shared → Prop) → Shared → Prop} {σ : Store} {b : β} {Rel : Fz → α → β → Prop}
  (H : ∀ Q E, (∀ a Φ' h' k, Inv W Φ' ρ σ h' → Step ρ (frs l) Φ s.heap Φ' h' → Rel Φ' a b → Q a { s with heap := h', toks := k }) → P Q E s) : SimP W l L ρ P Φ s (.ok b σ) Rel :=
 fun Q E _ hok _ => H Q E fun a Φ' h' k I S r => hok a b σ Φ' h' k rfl I S r
theorem SimP.stuck {P : (α → Shared → Prop) → (Value → Shared → Prop) → Shared → Prop} {Rel : Fz → α → β → Prop} : SimP W l L ρ P Φ s .stuck Rel :=
 fun _ _ h => absurd rfl h
theorem SimP.ite {P : (α → Shared → Prop) → (Value → Shared → Prop) → Shared → Prop} {c : Prop} [Decidable c] {R₁ R₂ : Res β} {Rel : Fz → α → β → Prop}
  (h1 : c → SimP W l L ρ P Φ s R₁ Rel) (h2 : ¬ c → SimP W l L ρ P Φ s R₂ Rel) : SimP W l L ρ P Φ s (if c then R₁ else R₂) Rel := by
 split
 ·exact h1 ‹_›
 ·exact h2 ‹_›
end
inductive Holds (h : Heap) (env : Env) (x : Str) (ov : Option Value) : Prop
 | loc (hk : env.kindOf x = some .local) (m : Str → Option Value) (hm : h.Ns env.locals m) (e : m x = ov) : Holds h env x ov
 | cel (hk : env.kindOf x = some .cell) (c : Addr) (hc : env.cells.lookup x = some c) (q : h.IsCell c ov) : Holds h env x ov
structure FrOk (Φ : Fz) (ρ : List Addr) (env : Env) (vars : List (Option Str)) (fr : Frame) (h : Heap) : Prop where
 ns : ∃ m, h.Ns env.locals m
 lfz : Φ env.locals = none
 lout : env.locals ∉ ρ
 cell : ∀ x c, env.cells.lookup x = some c → (∃ ov, h.IsCell c ov) ∧ Φ c = none ∧ c ∉ ρ ∧ c ≠ env.locals
 inj : ∀ x y c, env.cells.lookup x = some c → env.cells.lookup y = some c → x = y
 val : ∀ (i : Nat) (x : Str), vars[i]? = some (some x) → ∃ ov, Holds h env x ov ∧ ∀ v, fr[i]? = some (some v) → ∃ u, ov = some u ∧ VR Φ ρ u v
 nodup : ∀ (i j : Nat) (x : Str), vars[i]? = some (some x) → vars[j]? = some (some x) → i = j
 len : fr.length = vars.length
theorem ns_slots {h h' : Heap} {a : Addr} {m : Str → Option Value} (hn : h.Ns a m) (k : ∀ o, h.get? a = some o → ∃ sl, h'.get? a = some { o with slots := sl }) : h'.Ns a m := by
 obtain ⟨o, es, ep, ho, hd, r⟩ := hn
 obtain ⟨sl, e⟩ := k o ho
 exact ⟨_, es, ep, e, hd, r⟩
theorem cell_slots {h h' : Heap} {a : Addr} {v : Option Value} (hn : h.IsCell a v) (k : ∀ o, h.get? a = some o → ∃ sl, h'.get? a = some { o with slots := sl }) : h'.IsCell a v := by
 obtain ⟨o, ho, hd⟩ := hn
 obtain ⟨sl, e⟩ := k o ho
 exact ⟨_, e, hd⟩
theorem FrOk.kp {Φ Φ' : Fz} {ρ : List Addr} {env : Env} {vars : List (Option Str)} {fr : Frame} {h h' : Heap} (F : FrOk Φ ρ env vars fr h) (hext : ∀ a o, Φ a = some o → Φ' a = some o) (hfresh : ∀ a o, h.get? a = some o → Φ' a = Φ a)
  (k : ∀ a, (a = env.locals ∨ ∃ x, env.cells.lookup x = some a) → ∀ o, h.get? a = some o → ∃ sl, h'.get? a = some { o with slots := sl }) : FrOk Φ' ρ env vars fr h' := by
 obtain ⟨m, hm⟩ := F.ns
 have hL : ∃ o, h.get? env.locals = some o := by obtain ⟨o, _, _, e, _⟩ := hm; exact ⟨o, e⟩
 refine ⟨⟨m, ns_slots hm (k _ (.inl rfl))⟩, ?_, F.lout, fun x c hc => ?_, F.inj, fun i x hx => ?_, F.nodup, F.len⟩
 ·obtain ⟨o, e⟩ := hL; rw [hfresh _ o e]; exact F.lfz
 ·obtain ⟨⟨ov, q⟩, h1, h2, h3⟩ := F.cell x c hc
  have q' := q
  obtain ⟨o, ho, _⟩ := q'
  exact ⟨⟨ov, cell_slots q (k c (.inr ⟨x, hc⟩))⟩, (hfresh c o ho).trans h1, h2, h3⟩
 ·obtain ⟨ov, hv, hr⟩ := F.val i x hx
  refine ⟨ov, ?_, fun v q => let ⟨u, e, r⟩ := hr v q; ⟨u, e, r.mono hext⟩⟩
  rcases hv with ⟨hk, m', hm', e⟩ | ⟨hk, c, hc, q⟩
  ·exact .loc hk m' (ns_slots hm' (k _ (.inl rfl))) e
  ·exact .cel hk c hc (cell_slots q (k c (.inr ⟨x, hc⟩)))
structure Dy (W : Wd) (Φ : Fz) (ρ : List Addr) (σ : Store) (l : List Env) (env : Env) (vars : List (Option Str)) (fr : Frame) (h : Heap) : Prop where
 inv : Inv W Φ ρ σ h
 stk : StackOk l Φ ρ h
 frm : FrOk Φ ρ env vars fr h
theorem Dy.step {W : Wd} {Φ Φ' : Fz} {ρ : List Addr} {σ σ' : Store} {l : List Env} {env : Env} {vars : List (Option Str)} {fr : Frame} {h h' : Heap} (D : Dy W Φ ρ σ l env vars fr h) (S : Step ρ (frs l) Φ h Φ' h') (I : Inv W Φ' ρ σ' h') :
  Dy W Φ' ρ σ' l env vars fr h' := by
 refine ⟨I, D.stk.step S, D.frm.kp S.ext S.fresh fun a ha o e => S.kp.slots a o ?_ e⟩
 rcases ha with rfl | ⟨x, hx⟩
 ·exact D.frm.lout
 ·exact (D.frm.cell x a hx).2.2.1
structure Sc where
 names : List (Str × NameKind)
 vars : List (Option Str)
structure Cx (W : Wd) (n : Nat) (A : Around) (e0 : Env) (outer : List Env) (L : Addr) (env : Env) (sc : Sc) : Prop where
 frames : A.frames = some (e0 :: outer)
 f0 : e0.frame = some L
 f : env.frame = some L
 handled : A.handled = none
 depth : A.depth + n < recursionLimit
 units : A.units + 3 * n + 1100 < cLine
 kind : env.scope.kind = .function
 glob : env.globals = mainGlobals
 blt : env.builtins = builtinsNs
 names : env.scope.names = sc.names
structure Cs (env : Env) (sc : Sc) : Prop where
 kind : env.scope.kind = .function
 glob : env.globals = mainGlobals
 blt : env.builtins = builtinsNs
 names : env.scope.names = sc.names
theorem Cx.cs {W : Wd} {n : Nat} {A : Around} {e0 : Env} {outer : List Env} {L : Addr} {env : Env} {sc : Sc} (cx : Cx W n A e0 outer L env sc) : Cs env sc := ⟨cx.kind, cx.glob, cx.blt, cx.names⟩
structure Base (W : Wd) : Prop where
 g : W.h₀.Ns mainGlobals W.mg
 b : W.h₀.Ns builtinsNs W.mb
 nolimit : W.h₀.NoLimit
 sys : ∃ o, W.h₀.get? sysModules = some o
 glob : ∀ (i : Nat) (x : Str) (d : PyData), W.GN[i]? = some x → W.G[i]? = some d → ∃ v, W.mg x = some v ∧ ∀ Φ : Fz, (∀ a o, W.h₀.get? a = some o → Φ a = some o) → RD Φ v d
 len : W.mg "len" = none ∧ W.mb "len" = some (.builtin "len")
 list : W.mg "list" = none ∧ W.mb "list" = some (.type "list")
 tuple : W.mg "tuple" = none ∧ W.mb "tuple" = some (.type "tuple")
 type : W.mg "type" = none ∧ W.mb "type" = some (.type "type")
 bool : W.mg "bool" = none ∧ W.mb "bool" = some (.type "bool")
 range : W.mg "range" = none ∧ W.mb "range" = some (.type "range")
 valueError : W.mg "ValueError" = none ∧ W.mb "ValueError" = some (.type "ValueError")
section
variable {W : Wd} {n : Nat} {A : Around} {e0 : Env} {outer : List Env} {L : Addr} {env : Env} {sc : Sc} {E : Value → Shared → Prop} {s : Shared} {Φ : Fz} {ρ : List Addr} {σ : Store} {fr : Frame}
theorem load_ok (cx : Cx W n A e0 outer L env sc) (D : Dy W Φ ρ σ (e0 :: outer) env sc.vars fr s.heap) {i : Nat} {x : Str} {v : V} (hx : sc.vars[i]? = some (some x)) (hv : fr[i]? = some (some v)) {Q : Value → Shared → Prop}
  (hQ : ∀ u, VR Φ ρ u v → Q u s) : wpAny (model W.prog W.w) A (loadName env x) Q E s := by
 obtain ⟨ov, hh, hr⟩ := D.frm.val i x hx
 obtain ⟨u, rfl, r⟩ := hr v hv
 rcases hh with ⟨hk, m, hm, e⟩ | ⟨hk, c, hc, q⟩
 ·exact wpAny_loadName_local cx.kind hk hm e (hQ u r)
 ·exact wpAny_loadName_cell cx.kind hk hc q (hQ u r)
noncomputable def own (env : Env) (a : Addr) : Prop := a = env.locals ∨ ∃ x, env.cells.lookup x = some a
theorem store_okK (cx : Cs env sc) (D : Dy W Φ ρ σ (e0 :: outer) env sc.vars fr s.heap) {i : Nat} {x : Str} {u : Value} {v : V} (hx : sc.vars[i]? = some (some x)) (hu : VR Φ ρ u v) {X : Addr → Prop}
  (hXl : env.kindOf x = some .local → X env.locals) (hXc : ∀ c, env.kindOf x = some .cell → env.cells.lookup x = some c → X c) {Q : Unit → Shared → Prop}
  (hQ : ∀ h' k, Dy W Φ ρ σ (e0 :: outer) env sc.vars (fr.set i (some v)) h' → Kp X (frs (e0 :: outer)) s.heap h' → Q () { s with heap := h', toks := k }) : wpAny (model W.prog W.w) A (storeName env x u) Q E s := by
 obtain ⟨ov, hh, hr⟩ := D.frm.val i x hx
 have setv : ∀ j w, (fr.set i (some v))[j]? = some (some w) → (j = i ∧ w = v) ∨ (j ≠ i ∧ fr[j]? = some (some w)) := fun j w q => by
  by_cases hj : j = i
  ·subst hj
   rw [List.getElem?_set_self'] at q
   cases hq : fr[j]? with
   | none => rw [hq] at q; cases q
   | some z => rw [hq] at q; simp at q; exact .inl ⟨rfl, q.symm⟩
  ·rw [List.getElem?_set_ne (Ne.symm hj)] at q; exact .inr ⟨hj, q⟩
 -- what stands elsewhere stands on
 have rest : ∀ (T : Addr) (h' : Heap), own env T → X T → Heap.SameBut T s.heap h' → (∃ o, h'.get? T = some o ∧ ∀ vs, o.data ≠ .fields vs) → (∃ oT, s.heap.get? T = some oT) →
   Inv W Φ ρ σ h' ∧ StackOk (e0 :: outer) Φ ρ h' ∧ Kp X (frs (e0 :: outer)) s.heap h' := fun T h' hT hXT hs hl ⟨oT, hoT⟩ => by
  have hTΦ : Φ T = none := by rcases hT with rfl | ⟨y, hy⟩; exact D.frm.lfz; exact (D.frm.cell y T hy).2.1
  have hTρ : T ∉ ρ := by rcases hT with rfl | ⟨y, hy⟩; exact D.frm.lout; exact (D.frm.cell y T hy).2.2.1
  refine ⟨⟨D.inv.base, fun a o e => (hs.2 a fun q => by rw [q, hTΦ] at e; cases e).trans (D.inv.frz a o e), D.inv.len, fun k a c h1 h2 => ?_, D.inv.nodup, D.inv.apart⟩, fun env' he' => ?_, ?_⟩
  ·exact (D.inv.cell k a c h1 h2).mono (fun _ _ q => q) fun o q => (hs.2 a fun r => hTρ (r ▸ List.mem_of_getElem? h1)).trans q
  ·obtain ⟨k, L', o, p1, p2, p3, p4, p5⟩ := D.stk env' he'
   by_cases q : L' = T
   ·subst q; obtain ⟨o', e', hd'⟩ := hl; exact ⟨k, L', o', p1, e', hd', p4, p5⟩
   ·exact ⟨k, L', o, p1, (hs.2 L' q).trans p2, p3, p4, p5⟩
  ·exact .sameBut hs (.inl hXT) (let ⟨o, e, _⟩ := hl; ⟨o, e⟩)
 rcases hh with ⟨hk, m, hm, e⟩ | ⟨hk, c, hc, q⟩
 ·refine wpAny_storeName_local hk hm (fun h' hn' hs' => ?_) (by rw [cx.kind]; rfl)
  have hlive : ∃ o, h'.get? env.locals = some o ∧ ∀ vs, o.data ≠ .fields vs := by obtain ⟨o, _, _, e, hd, _⟩ := hn'; exact ⟨o, e, fun vs q => by rw [hd] at q; cases q⟩
  obtain ⟨a1, a2, a3⟩ := rest env.locals h' (.inl rfl) (hXl hk) hs' hlive (by obtain ⟨o, _, _, e, _⟩ := hm; exact ⟨o, e⟩)
  refine hQ h' _ ⟨a1, a2, ⟨⟨_, hn'⟩, D.frm.lfz, D.frm.lout, fun y c hy => ?_, D.frm.inj, fun j y hy => ?_, D.frm.nodup, by rw [List.length_set]; exact D.frm.len⟩⟩ a3
  ·obtain ⟨⟨ov', q'⟩, h1, h2, h3⟩ := D.frm.cell y c hy
   exact ⟨⟨ov', q'.sameBut hs' h3⟩, h1, h2, h3⟩
  ·obtain ⟨ov', hv', hr'⟩ := D.frm.val j y hy
   by_cases hj : j = i
   ·subst hj
    rw [hx] at hy; cases hy
    refine ⟨some u, .loc hk _ hn' (by simp), fun w qw => ?_⟩
    rcases setv j w qw with ⟨_, rfl⟩ | ⟨hne, _⟩
    ·exact ⟨u, rfl, hu⟩
    ·exact absurd rfl hne
   ·have hyx : y ≠ x := fun r => hj (D.frm.nodup j i x (r ▸ hy) hx)
    refine ⟨ov', ?_, fun w qw => ?_⟩
    ·rcases hv' with ⟨hk', m', hm', e'⟩ | ⟨hk', c', hc', q'⟩
     ·have hmm : ∀ z, m' z = m z := fun z => by
       obtain ⟨o1, es1, ep1, g1, d1, _, f1⟩ := hm'
       obtain ⟨o2, es2, ep2, g2, d2, _, f2⟩ := hm
       rw [g1] at g2; cases g2; rw [d1] at d2; cases d2
       rw [← f1 z, ← f2 z]
      exact .loc hk' _ hn' (by simp [hyx, ← hmm, e'])
     ·exact .cel hk' c' hc' (q'.sameBut hs' (D.frm.cell y c' hc').2.2.2)
    ·rcases setv j w qw with ⟨r, _⟩ | ⟨_, qw'⟩
     ·exact absurd r hj
     ·exact hr' w qw'
 ·refine wpAny_storeName_cell cx.kind hk hc q fun h' hc' hs' => ?_
  have hlive : ∃ o, h'.get? c = some o ∧ ∀ vs, o.data ≠ .fields vs := by obtain ⟨o, e, hd⟩ := hc'; exact ⟨o, e, fun vs q => by rw [hd] at q; cases q⟩
  obtain ⟨a1, a2, a3⟩ := rest c h' (.inr ⟨x, hc⟩) (hXc c hk hc) hs' hlive (by obtain ⟨o, e, _⟩ := q; exact ⟨o, e⟩)
  have hcL := (D.frm.cell x c hc).2.2.2
  obtain ⟨m, hm⟩ := D.frm.ns
  have := hQ h' s.toks ⟨a1, a2, ⟨⟨m, hm.sameBut hs' (Ne.symm hcL)⟩, D.frm.lfz, D.frm.lout, fun y c' hy => ?_, D.frm.inj, fun j y hy => ?_, D.frm.nodup, by rw [List.length_set]; exact D.frm.len⟩⟩ a3
  ·exact this
  ·obtain ⟨⟨ov', q'⟩, h1, h2, h3⟩ := D.frm.cell y c' hy
   by_cases hcc : c' = c
   ·subst hcc; exact ⟨⟨_, hc'⟩, h1, h2, h3⟩
   ·exact ⟨⟨ov', q'.sameBut hs' hcc⟩, h1, h2, h3⟩
  ·obtain ⟨ov', hv', hr'⟩ := D.frm.val j y hy
   by_cases hj : j = i
   ·subst hj
    rw [hx] at hy; cases hy
    refine ⟨some u, .cel hk c hc hc', fun w qw => ?_⟩
    rcases setv j w qw with ⟨_, rfl⟩ | ⟨hne, _⟩
    ·exact ⟨u, rfl, hu⟩
    ·exact absurd rfl hne
   ·have hyx : y ≠ x := fun r => hj (D.frm.nodup j i x (r ▸ hy) hx)
    refine ⟨ov', ?_, fun w qw => ?_⟩
    ·rcases hv' with ⟨hk', m', hm', e'⟩ | ⟨hk', c', hc'', q'⟩
     ·exact .loc hk' m' (hm'.sameBut hs' (Ne.symm hcL)) e'
     ·exact .cel hk' c' hc'' (q'.sameBut hs' fun r => hyx (D.frm.inj y x c (r ▸ hc'') hc))
    ·rcases setv j w qw with ⟨r, _⟩ | ⟨_, qw'⟩
     ·exact absurd r hj
     ·exact hr' w qw'
theorem store_ok (cx : Cx W n A e0 outer L env sc) (D : Dy W Φ ρ σ (e0 :: outer) env sc.vars fr s.heap) {i : Nat} {x : Str} {u : Value} {v : V} (hx : sc.vars[i]? = some (some x)) (hu : VR Φ ρ u v) {X : Addr → Prop}
  (hXl : env.kindOf x = some .local → X env.locals) (hXc : ∀ c, env.kindOf x = some .cell → env.cells.lookup x = some c → X c) {Q : Unit → Shared → Prop}
  (hQ : ∀ h' k, Dy W Φ ρ σ (e0 :: outer) env sc.vars (fr.set i (some v)) h' → Kp X (frs (e0 :: outer)) s.heap h' → Q () { s with heap := h', toks := k }) : wpAny (model W.prog W.w) A (storeName env x u) Q E s :=
 store_okK cx.cs D hx hu hXl hXc hQ
theorem global_ok (B : Base W) (cx : Cx W n A e0 outer L env sc) (I : Inv W Φ ρ σ s.heap) {x : Str} {v : Value} (hk : sc.names.lookup x = some .globalImplicit) (hv : W.mg x = some v) {pos : Pos} {Q : Value → Shared → Prop} (hd : (x == ("__debug__" : Str)) = false)
  (hQ : Q v s) : wpAny (model W.prog W.w) A (eval (.Name x pos) env) Q E s :=
 Calls.Name_function_global cx.kind (by unfold Env.kindOf; rw [cx.names]; exact hk) (Calls.loadGlobal_global (mg := W.mg) (by rw [cx.glob]; exact B.g.keeps I.keeps) hv hQ) hd
theorem builtin_okK (B : Base W) (cx : Cs env sc) (I : Inv W Φ ρ σ s.heap) {x : Str} {v : Value} (hk : sc.names.lookup x = some .globalImplicit) (hg : W.mg x = none) (hv : W.mb x = some v) {pos : Pos} {Q : Value → Shared → Prop} (hd : (x == ("__debug__" : Str)) = false)
  (hQ : Q v s) : wpAny (model W.prog W.w) A (eval (.Name x pos) env) Q E s :=
 Calls.Name_function_global cx.kind (by unfold Env.kindOf; rw [cx.names]; exact hk) (Calls.loadGlobal_builtin (mg := W.mg) (mb := W.mb) (by rw [cx.glob]; exact B.g.keeps I.keeps) hg (by rw [cx.blt]; exact B.b.keeps I.keeps) hv hQ) hd
theorem builtin_ok (B : Base W) (cx : Cx W n A e0 outer L env sc) (I : Inv W Φ ρ σ s.heap) {x : Str} {v : Value} (hk : sc.names.lookup x = some .globalImplicit) (hg : W.mg x = none) (hv : W.mb x = some v) {pos : Pos} {Q : Value → Shared → Prop} (hd : (x == ("__debug__" : Str)) = false)
  (hQ : Q v s) : wpAny (model W.prog W.w) A (eval (.Name x pos) env) Q E s := builtin_okK B cx.cs I hk hg hv hd hQ
end
end Holk
namespace Holk
open PySem PyProof.Rows
noncomputable def Sc.isVar (sc : Sc) (i : Nat) (id : Str) : Bool := (match sc.vars[i]? with | some (some x) => x == id | _ => false) && !(id == ("__debug__" : Str))
noncomputable def Sc.isGlob (sc : Sc) (id : Str) : Bool := (sc.names.lookup id == some NameKind.globalImplicit) && !(id == ("__debug__" : Str))
theorem Sc.isVar_iff {sc : Sc} {i : Nat} {id : Str} (h : sc.isVar i id = true) : sc.vars[i]? = some (some id) ∧ (id == ("__debug__" : Str)) = false := by
 unfold Sc.isVar at h
 rw [Bool.and_eq_true] at h
 refine ⟨?_, by simpa using h.2⟩
 have := h.1
 split at this
 ·rename_i x hx; rw [hx, beq_iff_eq.mp this]
 ·cases this
theorem Sc.isGlob_iff {sc : Sc} {id : Str} (h : sc.isGlob id = true) : sc.names.lookup id = some .globalImplicit ∧ (id == ("__debug__" : Str)) = false := by
 unfold Sc.isGlob at h
 rw [Bool.and_eq_true] at h
 exact ⟨by simpa using h.1, by simpa using h.2⟩
noncomputable def dNone : PyData → Bool
 | .none => true
 | _ => false
theorem dNone_iff {x : PyData} (h : dNone x = true) : x = .none := by cases x <;> first | rfl | (cases h; done)
noncomputable def ckC (c : Const) (x : PyData) : Bool := match c with
 | .none => dNone x
 | .bool a => (dBool x).any (a == ·)
 | .int a => (dInt x).any (a == ·)
 | .str a => (dStr x).any fun b => a == b && PyData.strOk b
 | _ => false
theorem oany_iff {α : Type} {o : Option α} {p : α → Bool} (h : o.any p = true) : ∃ x, o = some x ∧ p x = true := by
 cases o with
 | none => cases h
 | some x => exact ⟨x, rfl, h⟩
noncomputable def notStar : Expr → Bool
 | .Starred .. => false
 | _ => true
noncomputable def notSlice : Expr → Bool
 | .Slice .. => false
 | _ => true
noncomputable def notSet : Expr → Bool
 | .Set .. => false
 | _ => true
noncomputable def atName (i : Nat) (l : List Str) (x : Str) : Bool := match l[i]? with
 | some y => y == x
 | none => false
theorem atName_iff {i : Nat} {l : List Str} {x : Str} (h : atName i l x = true) : l[i]? = some x := by
 unfold atName at h
 cases hq : l[i]? with
 | none => rw [hq] at h; cases h
 | some y => rw [hq] at h; rw [beq_iff_eq.mp h]
noncomputable def nodupB : List (Str × NameKind) → Bool
 | [] => true
 | (n, _) :: r => (r.all fun p => !(p.1 == n)) && nodupB r
theorem Z138 : nodupB ([]) = (true) := rfl
theorem Z139 : nodupB ((n, u1) :: r) = ((r.all fun p => !(p.1 == n)) && nodupB r) := rfl
noncomputable def compSc (sc : Sc) (scope : Scope) : Sc where
 names := scope.names.map fun (n, k) => if (k == .free && sc.names.lookup n == some NameKind.cell) then (n, .cell) else (n, k)
 vars := (sc.vars.map fun o => match o with
   | some x => if scope.names.lookup x == some NameKind.free && sc.names.lookup x == some NameKind.cell then some x else none
   | none => none) ++ scope.names.map fun (n, k) => if k == NameKind.local then some n else none
noncomputable def ckScope (sc : Sc) (scope : Scope) : Bool :=
 scope.kind == .function && nodupB scope.names && (scope.names.all fun (n, k) => !(k == .cell) && (!(k == .free) || ((sc.names.lookup n == some NameKind.cell) && sc.vars.contains (some n))))
mutual
noncomputable def tgAll (p : Nat → Bool) : Tg → Bool
 | .var i => p i
 | .tup ts => tgsAll p ts
noncomputable def tgsAll (p : Nat → Bool) : List Tg → Bool
 | [] => true
 | t :: ts => tgAll p t && tgsAll p ts
end
theorem Z136 : tgAll p (.var i) = (p i) := rfl
theorem Z137 : tgAll p (.tup ts) = (tgsAll p ts) := rfl
theorem Z134 : tgsAll p ([]) = (true) := rfl
theorem Z135 : tgsAll p (t :: ts) = (tgAll p t && tgsAll p ts) := rfl
noncomputable def compLoc (sc : Sc) (i : Nat) : Bool := match sc.vars[i]? with
 | some (some x) => sc.names.lookup x == some NameKind.local
 | _ => false
noncomputable def vConst (e : Expr) : Option {x : Const // ∃ k p, e = .Constant x k p} := match e with
 | .Constant a k p => some ⟨a, k, p, rfl⟩
 | _ => none
noncomputable def vName (e : Expr) : Option {x : Str // ∃ p, e = .Name x p} := match e with
 | .Name a p => some ⟨a, p, rfl⟩
 | _ => none
noncomputable def vTup (e : Expr) : Option {x : List Expr // ∃ k p, e = .Tuple x k p} := match e with
 | .Tuple a k p => some ⟨a, k, p, rfl⟩
 | _ => none
noncomputable def vLst (e : Expr) : Option {x : List Expr // ∃ p, e = .List x p} := match e with
 | .List a p => some ⟨a, p, rfl⟩
 | _ => none
noncomputable def vSub (e : Expr) : Option {x : Expr × Expr // ∃ p, e = .Subscript x.1 x.2 p} := match e with
 | .Subscript a b p => some ⟨(a, b), p, rfl⟩
 | _ => none
noncomputable def vSubN (e : Expr) : Option {x : Str × Expr // ∃ q p, e = .Subscript (.Name x.1 q) x.2 p} := match e with
 | .Subscript (.Name a q) b p => some ⟨(a, b), q, p, rfl⟩
 | _ => none
noncomputable def vCmp1 (e : Expr) : Option {x : Expr × CmpOp × Expr // ∃ p, e = .Compare x.1 [x.2.1] [x.2.2] p} := match e with
 | .Compare a [b] [c] p => some ⟨(a, b, c), p, rfl⟩
 | _ => none
noncomputable def vCmpN (e : Expr) : Option {x : Expr × CmpOp × Str // ∃ q p, e = .Compare x.1 [x.2.1] [.Name x.2.2 q] p} := match e with
 | .Compare a [b] [.Name c q] p => some ⟨(a, b, c), q, p, rfl⟩
 | _ => none
noncomputable def vCmp2 (e : Expr) : Option {x : Expr × Expr × Expr // ∃ p, e = .Compare x.1 [.LtE, .Lt] [x.2.1, x.2.2] p} := match e with
 | .Compare a [.LtE, .Lt] [b, c] p => some ⟨(a, b, c), p, rfl⟩
 | _ => none
noncomputable def vIsB (e : Expr) : Option {x : Str × Expr × Str // ∃ q r t p, e = .Compare (.Call (.Name x.1 q) [x.2.1] [] r) [.Is] [.Name x.2.2 t] p} := match e with
 | .Compare (.Call (.Name a q) [b] [] r) [.Is] [.Name c t] p => some ⟨(a, b, c), q, r, t, p, rfl⟩
 | _ => none
noncomputable def vAnd (e : Expr) : Option {x : List Expr // ∃ p, e = .BoolOp .And x p} := match e with
 | .BoolOp .And a p => some ⟨a, p, rfl⟩
 | _ => none
noncomputable def vOr (e : Expr) : Option {x : List Expr // ∃ p, e = .BoolOp .Or x p} := match e with
 | .BoolOp .Or a p => some ⟨a, p, rfl⟩
 | _ => none
noncomputable def vNot (e : Expr) : Option {x : Expr // ∃ p, e = .UnaryOp .Not x p} := match e with
 | .UnaryOp .Not a p => some ⟨a, p, rfl⟩
 | _ => none
noncomputable def vNeg (e : Expr) : Option {x : Expr // ∃ p, e = .UnaryOp .USub x p} := match e with
 | .UnaryOp .USub a p => some ⟨a, p, rfl⟩
 | _ => none
noncomputable def vBin (e : Expr) : Option {x : Expr × Operator × Expr // ∃ p, e = .BinOp x.1 x.2.1 x.2.2 p} := match e with
 | .BinOp a b c p => some ⟨(a, b, c), p, rfl⟩
 | _ => none
noncomputable def vCallN (e : Expr) : Option {x : Str × List Expr // ∃ q p, e = .Call (.Name x.1 q) x.2 [] p} := match e with
 | .Call (.Name a q) b [] p => some ⟨(a, b), q, p, rfl⟩
 | _ => none
noncomputable def vCall1 (e : Expr) : Option {x : Str × Expr // ∃ q p, e = .Call (.Name x.1 q) [x.2] [] p} := match e with
 | .Call (.Name a q) [b] [] p => some ⟨(a, b), q, p, rfl⟩
 | _ => none
noncomputable def vComp (e : Expr) : Option {x : Expr × Comprehension × Scope // ∃ p, e = .ListComp x.1 [x.2.1] x.2.2 p} := match e with
 | .ListComp a [b] c p => some ⟨(a, b, c), p, rfl⟩
 | _ => none
@[irreducible] def anyS {α : Type} {q : α → Prop} (o : Option (Subtype q)) (p : α → Bool) : Bool := match o with
 | some x => p x.1
 | none => false
theorem anyS_iff {α : Type} {q : α → Prop} {o : Option (Subtype q)} {p : α → Bool} (h : anyS o p = true) : ∃ x, q x ∧ p x = true := by
 unfold anyS at h
 cases o with
 | none => cases h
 | some x => exact ⟨x.1, x.2, h⟩
mutual
noncomputable def ckT (sc : Sc) : Tg → Expr → Bool
 | .var i, e => anyS (vName e) fun id => sc.isVar i id
 | .tup ts, e => anyS (vTup e) fun es => ckTs sc ts es
noncomputable def ckTs (sc : Sc) : List Tg → List Expr → Bool
 | [], es => es.isEmpty
 | t :: ts, es => match es with
  | e :: r => notStar e && ckT sc t e && ckTs sc ts r
  | [] => false
end
theorem Z148 : ckTs sc ([]) es = (es.isEmpty) := rfl
theorem Z149 : ckTs sc (t :: ts) es = (match es with
  | e :: r => notStar e && ckT sc t e && ckTs sc ts r
  | [] => false) := rfl
theorem and2 {a b : Bool} (h : (a && b) = true) : a = true ∧ b = true := Bool.and_eq_true_iff.mp h
theorem beq_of {α : Type} [BEq α] [LawfulBEq α] {a b : α} (h : (a == b) = true) : a = b := beq_iff_eq.mp h
theorem nil_of {α : Type} {l : List α} (h : l.isEmpty = true) : l = [] := by cases l with | nil => rfl | cons => cases h
mutual
noncomputable def ckE (GN FN : List Str) (sc : Sc) : E → Expr → Bool
 | .con x, e => anyS (vConst e) fun c => ckC c x
 | .var i, e => anyS (vName e) fun id => sc.isVar i id
 | .glob g, e => anyS (vName e) fun id => sc.isGlob id && atName g GN id
 | .tup xs, e => anyS (vTup e) fun es => decide (xs.length ≤ 1000) && ckEs GN FN sc xs es
 | .lst xs, e => anyS (vLst e) fun es => decide (xs.length ≤ 1000) && ckEs GN FN sc xs es
 | .idx a i, e => anyS (vSub e) fun q => notSlice q.2 && (ckE GN FN sc a q.1 && ckE GN FN sc i q.2)
 | .slc _ _ _, _ => false
 | .cmp op a b, e => anyS (vCmp1 e) fun q => (q.2.1 == cmOp op) && (!behindInMarks q.2.1 q.2.2 && (ckE GN FN sc a q.1 && ckE GN FN sc b q.2.2))
 | .btw a b c, e => anyS (vCmp2 e) fun q => ckE GN FN sc a q.1 && (ckE GN FN sc b q.2.1 && ckE GN FN sc c q.2.2)
 | .and xs, e => anyS (vAnd e) fun q => !xs.isEmpty && ckEs GN FN sc xs q
 | .or xs, e => anyS (vOr e) fun q => !xs.isEmpty && ckEs GN FN sc xs q
 | .not a, e => anyS (vNot e) fun q => ckE GN FN sc a q
 | .bin op a b, e => anyS (vBin e) fun q => (q.2.1 == op2 op) && (ckE GN FN sc a q.1 && ckE GN FN sc b q.2.2)
 | .neg a, e => anyS (vNeg e) fun q => ckE GN FN sc a q
 | .call f xs, e => anyS (vCallN e) fun q => sc.isGlob q.1 && (atName f FN q.1 && ckEs GN FN sc xs q.2)
 | .len a, e => anyS (vCall1 e) fun q => sc.isGlob q.1 && ((q.1 == ("len" : Str)) && (notStar q.2 && ckE GN FN sc a q.2))
 | .toTup a, e => anyS (vCall1 e) fun q => sc.isGlob q.1 && ((q.1 == ("tuple" : Str)) && (notStar q.2 && ckE GN FN sc a q.2))
 | .toLst a, e => anyS (vCall1 e) fun q => sc.isGlob q.1 && ((q.1 == ("list" : Str)) && (notStar q.2 && ckE GN FN sc a q.2))
 | .isBool a, e => anyS (vIsB e) fun q => sc.isGlob q.1 && ((q.1 == ("type" : Str)) && (sc.isGlob q.2.2 && ((q.2.2 == ("bool" : Str)) && (notStar q.2.1 && ckE GN FN sc a q.2.1))))
 | .dHas ng a i, e => anyS (vCmpN e) fun q => (q.2.1 == (if ng then CmpOp.NotIn else CmpOp.In)) && (sc.isVar i q.2.2 && ckE GN FN sc a q.1)
 | .dGet i a, e => anyS (vSubN e) fun q => notSlice q.2 && (sc.isVar i q.1 && ckE GN FN sc a q.2)
 | .comp n elt t it ifs, e => anyS (vComp e) fun q => (q.2.1.is_async == 0) && ((n == q.2.2.names.length) && (ckScope sc q.2.2 && (notSet q.2.1.iter && (ckE GN FN sc it q.2.1.iter && (ckT (compSc sc q.2.2) t q.2.1.target && (tgAll (compLoc (compSc sc q.2.2)) t && (ckEs GN FN (compSc sc q.2.2) ifs q.2.1.ifs && ckE GN FN (compSc sc q.2.2) elt q.1)))))))
noncomputable def ckEs (GN FN : List Str) (sc : Sc) : List E → List Expr → Bool
 | [], es => es.isEmpty
 | x :: xs, es => match es with
  | e :: r => notStar e && ckE GN FN sc x e && ckEs GN FN sc xs r
  | [] => false
end
theorem Z146 : ckEs GN FN sc ([]) es = (es.isEmpty) := rfl
theorem Z147 : ckEs GN FN sc (x :: xs) es = (match es with
  | e :: r => notStar e && ckE GN FN sc x e && ckEs GN FN sc xs r
  | [] => false) := rfl
theorem starEach_cons {e : Expr} {r : List Expr} {env : Env} (h : notStar e = true) : starEach (e :: r) env = (false, eval e env) :: starEach r env := by
 cases e <;> first | rfl | cases h
theorem assignEach_cons {e : Expr} {r : List Expr} {env : Env} (h : notStar e = true) : assignEach (e :: r) env = (false, assign e env) :: assignEach r env := by
 cases e <;> first | rfl | cases h
theorem subscripted_plain {sl : Expr} (h : notSlice sl = true) (o i : Value) : subscripted sl false o i = operate [o, i] (getItem o i) := by
 cases sl <;> first | rfl | cases h
theorem folded_plain {e : Expr} {env : Env} (h : notSet e = true) (x : Value) : foldedSetIterable e env x = pure x := by
 cases e <;> first | rfl | cases h
noncomputable def CallOk (W : Wd) (n : Nat) (C : CallT) : Prop :=
 ∀ (f : Nat) (name : Str) (a : Addr), W.FN[f]? = some name → W.mg name = some (.ref a) → ∀ (A : Around) (l : List Env) (L : Addr) (ρ : List Addr) (Φ : Fz) (σ : Store) (s : Shared) (vs : List Value) (xs : List V), A.frames = some l → A.handled = none → A.depth + n < recursionLimit → A.units + 3 * n + 1100 < cLine → Inv W Φ ρ σ s.heap → StackOk l Φ ρ s.heap → VRs Φ ρ vs xs →
  Sim W A l L ρ (call (.ref a) vs) Φ s (C f xs σ) (fun Φ' v x => VR Φ' ρ v x)
noncomputable def FunsOk (W : Wd) : Prop := ∀ (f : Nat) (name : Str), W.FN[f]? = some name → ∃ a o fd, W.mg name = some (.ref a) ∧ W.h₀.get? a = some o ∧ o.data = .func fd
section
variable {W : Wd} {n : Nat} {C : CallT} {A : Around} {e0 : Env} {outer : List Env} {L : Addr} {env : Env} {sc : Sc} {s : Shared} {Φ : Fz} {ρ : List Addr} {σ : Store} {fr : Frame}
theorem evalArgs_any {M : Model} {E : Value → Shared → Prop} {f : Value} {args : List (Bool × Sem Value)} (hp : args.all (fun p => !p.1) = true) {Q : Args → Shared → Prop}
  (h : wpAny M A (spliced args) (fun vs s' => Q ⟨vs, []⟩ s') E s) : wpAny M A (evalArgs f true args []) Q E s := by
 cases args with
 | nil =>
  unfold evalArgs
  show wpAny M A (spliced [] >>= _) Q E s
  refine wpAny_bind (wpAny_mono h (fun vs s' h' => ?_) fun _ _ x => x)
  refine wpAny_holding ?_
  exact wpAny_bind (wpAny_pure (wpAny_bind (wpAny_pure (wpAny_pure h'))))
 | cons p r =>
  obtain ⟨b, x⟩ := p
  cases b with
  | false => exact Calls.evalArgs_plain h
  | true => simp at hp
theorem eval_Call_any {as : List Expr} {pos : Pos} {M : Model} {E : Value → Shared → Prop} {Q : Value → Shared → Prop} {x : Str} {px : Pos}
  (h : wpAny M A (eval (.Name x px) env) (fun v s₁ => wpAny M A (callWith pos v [] (backTo pos (starEach as env)) []) Q E s₁) E s) : wpAny M A (eval (.Call (.Name x px) as [] pos) env) Q E s := by
 show wpAny M A (do callWith pos (← eval (.Name x px) env) [] (backTo pos (starEach as env)) []) Q E s
 exact wpAny_bind h
end
end Holk
namespace Holk
open PySem PyProof.Rows
section
variable {W : Wd} {n : Nat} {C : CallT} {A : Around} {e0 : Env} {outer : List Env} {L : Addr} {env : Env} {sc : Sc} {s : Shared} {Φ : Fz} {ρ : List Addr} {σ : Store} {fr : Frame}
noncomputable abbrev VRel (ρ : List Addr) : Fz → Value → V → Prop := fun Φ v x => VR Φ ρ v x
noncomputable abbrev VRels (ρ : List Addr) : Fz → List Value → List V → Prop := fun Φ v x => VRs Φ ρ v x
noncomputable abbrev BRel : Fz → Bool → Bool → Prop := fun _ a b => a = b
noncomputable abbrev evB (G : List PyData) (C : CallT) (x : E) (fr : Frame) (σ : Store) : Res Bool := (evE G C x fr σ).bind fun v σ => Res.of σ (asBool v)
noncomputable def OkE (W : Wd) (n : Nat) (C : CallT) (sc : Sc) (x : E) (e : Expr) : Prop :=
 ∀ {A : Around} {e0 : Env} {outer : List Env} {L : Addr} {env : Env} {s : Shared} {Φ : Fz} {ρ : List Addr} {σ : Store} {fr : Frame}, Cx W n A e0 outer L env sc → Dy W Φ ρ σ (e0 :: outer) env sc.vars fr s.heap → Sim W A (e0 :: outer) L ρ (eval e env) Φ s (evE W.G C x fr σ) (VRel ρ)
noncomputable def OkT (W : Wd) (n : Nat) (C : CallT) (sc : Sc) (x : E) (e : Expr) : Prop :=
 ∀ {A : Around} {e0 : Env} {outer : List Env} {L : Addr} {env : Env} {s : Shared} {Φ : Fz} {ρ : List Addr} {σ : Store} {fr : Frame}, Cx W n A e0 outer L env sc → Dy W Φ ρ σ (e0 :: outer) env sc.vars fr s.heap → Sim W A (e0 :: outer) L ρ (isTrue e env (eval e env)) Φ s (evB W.G C x fr σ) BRel
theorem asBool_some {v : V} {b : Bool} (h : asBool v = some b) : v = .d (.bool b) := by
 cases v with
 | loc => cases h
 | d x => cases x <;> simp [asBool] at h; subst h; rfl
theorem Sim.bool {R : Res V} {t : Sem Value} (H : Sim W A (e0 :: outer) L ρ t Φ s R (VRel ρ)) : SimP W (e0 :: outer) L ρ (fun Q E s => wpAny (model W.prog W.w) A t (fun v s' => wpAny (model W.prog W.w) A (truthy v) Q E s') E s) Φ s (R.bind fun v σ => Res.of σ (asBool v)) BRel := by
 refine SimP.seq H fun v x σ' Φ' h' k e I S r => ?_
 have : Res.of σ' (asBool x) = (Res.of σ' (asBool x)).bind fun b σ => .ok b σ := by cases asBool x <;> rfl
 rw [this]
 refine SimP.opt fun b hb => ?_
 have := asBool_some hb
 subst this
 cases r
 exact SimP.ok fun Q E h => wpAny_truthy_bool (h b Φ' h' k I (.refl ..) rfl)
theorem okT_plain {x : E} {e : Expr} (h : OkE W n C sc x e) (he : ∀ env whole, isTrue e env whole = (do let v ← whole; standAt e.pos; holding [v] (truthy v))) : OkT W n C sc x e :=
 fun cx D => SimP.of (fun Q E h => wpAny_isTrue_value h (he _ _)) (Sim.bool (h cx D))
theorem con_ok {c : Const} {x : PyData} {k : Nat} {pos : Pos} (h : ckC c x = true) : OkE W n C sc (.con x) (.Constant c k pos) := by
 intro A e0 outer L env s Φ ρ σ fr cx D
 refine SimP.ok fun Q E hQ => ?_
 cases c with
 | none => rw [dNone_iff h] at hQ; exact wpAny_Constant_none (hQ _ Φ _ s.toks D.inv (.refl ..) RD.none)
 | bool a =>
  obtain ⟨b, h1, h2⟩ := oany_iff h
  rw [dBool_iff h1, ← beq_iff_eq.mp h2] at hQ
  exact wpAny_Constant_bool (hQ _ Φ _ s.toks D.inv (.refl ..) (RD.bool _))
 | int a =>
  obtain ⟨b, h1, h2⟩ := oany_iff h
  rw [dInt_iff h1, ← beq_iff_eq.mp h2] at hQ
  exact wpAny_Constant_int (hQ _ Φ _ _ D.inv (.refl ..) (RD.int _ _))
 | str a =>
  obtain ⟨b, h1, h2⟩ := oany_iff h
  obtain ⟨h2, h3⟩ := Bool.and_eq_true_iff.mp h2
  rw [dStr_iff h1, ← beq_iff_eq.mp h2] at hQ
  rw [← beq_iff_eq.mp h2] at h3
  exact wpAny_Constant_str (hQ _ Φ _ _ D.inv (.refl ..) (RD.str _ _ h3))
 | _ => cases h
theorem var_ok {i : Nat} {id : Str} {pos : Pos} (h : sc.isVar i id = true) : OkE W n C sc (.var i) (.Name id pos) := by
 intro A e0 outer L env s Φ ρ σ fr cx D
 obtain ⟨hv, hd⟩ := Sc.isVar_iff h
 show Sim W A (e0 :: outer) L ρ _ Φ s (match fr[i]? with | some (some v) => .ok v σ | _ => .stuck) _
 split
 ·rename_i v hf
  exact SimP.ok fun Q E hQ => wpAny_Name (load_ok cx D hv hf fun u r => hQ u Φ s.heap s.toks D.inv (.refl ..) r) hd
 ·exact .stuck
theorem glob_ok (B : Base W) {g : Nat} {id : Str} {pos : Pos} (h : sc.isGlob id = true) (hg : atName g W.GN id = true) : OkE W n C sc (.glob g) (.Name id pos) := by
 intro A e0 outer L env s Φ ρ σ fr cx D
 obtain ⟨hv, hd⟩ := Sc.isGlob_iff h
 show Sim W A (e0 :: outer) L ρ _ Φ s (match W.G[g]? with | some x => Res.ok (V.d x) σ | none => Res.stuck) _
 split
 ·rename_i x hf
  obtain ⟨v, hm, hr⟩ := B.glob g id x (atName_iff hg) hf
  exact SimP.ok fun Q E hQ => global_ok B cx D.inv hv hm hd (hQ v Φ s.heap s.toks D.inv (.refl ..) (hr Φ D.inv.base))
 ·exact .stuck
theorem es_nil {pos : Pos} : ∀ {A : Around} {e0 : Env} {outer : List Env} {L : Addr} {env : Env} {s : Shared} {Φ : Fz} {ρ : List Addr} {σ : Store} {fr : Frame}, Dy W Φ ρ σ (e0 :: outer) env sc.vars fr s.heap → Sim W A (e0 :: outer) L ρ (spliced (backTo pos (starEach [] env))) Φ s (evEs W.G C [] fr σ) (VRels ρ) := by
 intro A e0 outer L env s Φ ρ σ fr D
 exact SimP.ok fun Q E hQ => wpAny_items_nil (hQ _ Φ _ s.toks D.inv (.refl ..) trivial)
theorem es_cons {pos : Pos} {x : E} {xs : List E} {e : Expr} {es : List Expr} (hst : notStar e = true) (h : OkE W n C sc x e)
  (hs : ∀ {A : Around} {e0 : Env} {outer : List Env} {L : Addr} {env : Env} {s : Shared} {Φ : Fz} {ρ : List Addr} {σ : Store} {fr : Frame}, Cx W n A e0 outer L env sc → Dy W Φ ρ σ (e0 :: outer) env sc.vars fr s.heap → Sim W A (e0 :: outer) L ρ (spliced (backTo pos (starEach es env))) Φ s (evEs W.G C xs fr σ) (VRels ρ)) :
  ∀ {A : Around} {e0 : Env} {outer : List Env} {L : Addr} {env : Env} {s : Shared} {Φ : Fz} {ρ : List Addr} {σ : Store} {fr : Frame}, Cx W n A e0 outer L env sc → Dy W Φ ρ σ (e0 :: outer) env sc.vars fr s.heap → Sim W A (e0 :: outer) L ρ (spliced (backTo pos (starEach (e :: es) env))) Φ s (evEs W.G C (x :: xs) fr σ) (VRels ρ) := by
 intro A e0 outer L env s Φ ρ σ fr cx D
 refine SimP.of (fun Q E h => wpAny_items_cons h (starEach_cons hst)) (SimP.seq (h cx D) fun v y σ' Φ' h' k e' I S r => ?_)
 refine SimP.seq (hs cx (D.step S I)) fun vs ys σ'' Φ'' h'' k' e'' I' S' r' => ?_
 exact SimP.ok fun Q E hQ => hQ _ Φ'' _ k' I' (.refl ..) ⟨VR.mono S'.ext r, r'⟩
theorem evEs_length {G : List PyData} : ∀ {xs : List E} {fr : Frame} {σ : Store} {vs : List V} {σ' : Store}, evEs G C xs fr σ = .ok vs σ' → vs.length = xs.length
 | [], fr, σ, vs, σ', h => by (first | rw [Z87] at h | rw [Z88] at h); cases h; rfl
 | x :: xs, fr, σ, vs, σ', h => by
  (first | rw [Z87] at h | rw [Z88] at h)
  cases h1 : evE G C x fr σ with
  | ok v σ₁ =>
   rw [h1, Res.bind_ok] at h
   cases h2 : evEs G C xs fr σ₁ with
   | ok ws σ₂ =>
    rw [h2, Res.bind_ok] at h
    cases h
    simp [evEs_length h2]
   | err => rw [h2] at h; cases h
   | stuck => rw [h2] at h; cases h
  | err => rw [h1] at h; cases h
  | stuck => rw [h1] at h; cases h
theorem tup_ok {xs : List E} {es : List Expr} {k : Nat} {pos : Pos} (hl : xs.length ≤ 1000)
  (hs : ∀ {A : Around} {e0 : Env} {outer : List Env} {L : Addr} {env : Env} {s : Shared} {Φ : Fz} {ρ : List Addr} {σ : Store} {fr : Frame}, Cx W n A e0 outer L env sc → Dy W Φ ρ σ (e0 :: outer) env sc.vars fr s.heap → Sim W A (e0 :: outer) L ρ (spliced (backTo pos (starEach es env))) Φ s (evEs W.G C xs fr σ) (VRels ρ)) :
  OkE W n C sc (.tup xs) (.Tuple es k pos) := by
 intro A e0 outer L env s Φ ρ σ fr cx D
 rw [evx_tup]
 refine SimP.of (fun Q E h => wpAny_Tuple h) (SimP.seq (hs cx D) fun vs ys σ' Φ' h' k e' I S r => ?_)
 refine SimP.opt fun ds hd => SimP.ok fun Q E hQ => ?_
 have hlen := evEs_length e'
 have := r.length
 refine ⟨by rw [sizeLine_is]; lia, ?_⟩
 exact tup_new (s := { s with heap := h', toks := k }) (fs := frs (e0 :: outer)) I (r.allD hd) fun Φ'' I'' S'' R'' => hQ _ Φ'' _ k I'' S'' R''
theorem lst_ok {xs : List E} {es : List Expr} {pos : Pos} (hl : xs.length ≤ 1000)
  (hs : ∀ {A : Around} {e0 : Env} {outer : List Env} {L : Addr} {env : Env} {s : Shared} {Φ : Fz} {ρ : List Addr} {σ : Store} {fr : Frame}, Cx W n A e0 outer L env sc → Dy W Φ ρ σ (e0 :: outer) env sc.vars fr s.heap → Sim W A (e0 :: outer) L ρ (spliced (backTo pos (starEach es env))) Φ s (evEs W.G C xs fr σ) (VRels ρ)) :
  OkE W n C sc (.lst xs) (.List es pos) := by
 intro A e0 outer L env s Φ ρ σ fr cx D
 rw [evx_lst]
 refine SimP.of (fun Q E h => wpAny_List h) (SimP.seq (hs cx D) fun vs ys σ' Φ' h' k e' I S r => ?_)
 refine SimP.opt fun ds hd => SimP.ok fun Q E hQ => ?_
 have hlen := evEs_length e'
 have := r.length
 refine ⟨by rw [sizeLine_is]; lia, ?_⟩
 exact lst_new (s := { s with heap := h', toks := k }) (fs := frs (e0 :: outer)) I (r.allD hd) fun Φ'' I'' S'' R'' => hQ _ Φ'' _ k I'' S'' R''
theorem idx_okE {a i : E} {v sl : Expr} {pos : Pos} (hsl : notSlice sl = true) (ha : OkE W n C sc a v) (hi : OkE W n C sc i sl) : OkE W n C sc (.idx a i) (.Subscript v sl pos) := by
 intro A e0 outer L env s Φ ρ σ fr cx D
 rw [evx_idx]
 refine SimP.of (fun Q E h => Subscript_ h) (SimP.seq (ha cx D) fun va ya σ₁ Φ₁ h₁ k₁ e₁ I₁ S₁ r₁ => ?_)
 have D₁ := D.step S₁ I₁
 refine SimP.seq (hi cx D₁) fun vi yi σ₂ Φ₂ h₂ k₂ e₂ I₂ S₂ r₂ => ?_
 refine SimP.opt fun x hx => SimP.opt fun y hy => SimP.opt fun r hr => SimP.ok fun Q E hQ => ?_
 exact idx_ok (s := { s with heap := h₂, toks := k₂ }) I₂ (I₂.deref (VR.mono S₂.ext r₁) hx) (I₂.deref r₂ hy) hr (subscripted_plain hsl) fun u k r' => hQ u Φ₂ h₂ k I₂ (.refl ..) r'
theorem cx_units (cx : Cx W n A e0 outer L env sc) : A.units + 1100 < cLine := by have := cx.units; lia
theorem cmp_okE {op : Cm} {a b : E} {l r : Expr} {o : CmpOp} {pos : Pos} (ho : o = cmOp op) (hb : behindInMarks o r = false) (ha : OkE W n C sc a l) (hr : OkE W n C sc b r) : OkE W n C sc (.cmp op a b) (.Compare l [o] [r] pos) := by
 subst ho
 intro A e0 outer L env s Φ ρ σ fr cx D
 rw [evx_cmp]
 refine SimP.of (fun Q E h => wpAny_Compare1 h hb) (SimP.seq (ha cx D) fun va ya σ₁ Φ₁ h₁ k₁ e₁ I₁ S₁ r₁ => ?_)
 refine SimP.seq (hr cx (D.step S₁ I₁)) fun vi yi σ₂ Φ₂ h₂ k₂ e₂ I₂ S₂ r₂ => ?_
 refine SimP.opt fun x hx => SimP.opt fun y hy => SimP.opt fun r hr => SimP.ok fun Q E hQ => ?_
 obtain ⟨b, hcb, rfl⟩ := Option.map_eq_some_iff.mp hr
 exact cmp_ok (s := { s with heap := h₂, toks := k₂ }) I₂ (cx_units cx) (I₂.deref (VR.mono S₂.ext r₁) hx) (I₂.deref r₂ hy) hcb (hQ _ Φ₂ h₂ k₂ I₂ (.refl ..) (RD.bool _))
theorem evB_cmp {G : List PyData} {op : Cm} {a b : E} : evB G C (.cmp op a b) fr σ = (evE G C a fr σ).bind fun va σ => (evE G C b fr σ).bind fun vb σ =>
   (Res.of σ (deref σ va)).bind fun x σ => (Res.of σ (deref σ vb)).bind fun y σ => (Res.of σ (cmpOp op x y)).bind fun r σ => .ok r σ := by
 unfold evB
 rw [evx_cmp]
 cases evE G C a fr σ with
 | ok va σ₁ =>
  simp only [Res.bind_ok]
  cases evE G C b fr σ₁ with
  | ok vb σ₂ =>
   simp only [Res.bind_ok]
   cases deref σ₂ va with
   | none => rfl
   | some x =>
    cases h2 : deref σ₂ vb with
    | none => simp only [Res.of, Res.bind, h2]
    | some y =>
     simp only [Res.of, Res.bind, h2]
     cases cmpOp op x y <;> rfl
  | err => rfl
  | stuck => rfl
 | err => rfl
 | stuck => rfl
theorem cmp_okT {op : Cm} {a b : E} {l r : Expr} {o : CmpOp} {pos : Pos} (ho : o = cmOp op) (hb : behindInMarks o r = false) (ha : OkE W n C sc a l) (hr : OkE W n C sc b r) : OkT W n C sc (.cmp op a b) (.Compare l [o] [r] pos) := by
 subst ho
 intro A e0 outer L env s Φ ρ σ fr cx D
 rw [evB_cmp]
 refine SimP.of (fun Q E h => wpAny_isTrue_Compare1 h hb) (SimP.seq (ha cx D) fun va ya σ₁ Φ₁ h₁ k₁ e₁ I₁ S₁ r₁ => ?_)
 refine SimP.seq (hr cx (D.step S₁ I₁)) fun vi yi σ₂ Φ₂ h₂ k₂ e₂ I₂ S₂ r₂ => ?_
 refine SimP.opt fun x hx => SimP.opt fun y hy => SimP.opt fun r hr => SimP.ok fun Q E hQ => ?_
 exact cmp_ok (s := { s with heap := h₂, toks := k₂ }) I₂ (cx_units cx) (I₂.deref (VR.mono S₂.ext r₁) hx) (I₂.deref r₂ hy) hr (wpAny_truthy_bool (hQ _ Φ₂ h₂ k₂ I₂ (.refl ..) rfl))
theorem bin_okE {op : Op2} {a b : E} {l r : Expr} {o : Operator} {pos : Pos} (ho : o = op2 op) (ha : OkE W n C sc a l) (hr : OkE W n C sc b r) : OkE W n C sc (.bin op a b) (.BinOp l o r pos) := by
 subst ho
 intro A e0 outer L env s Φ ρ σ fr cx D
 rw [evx_bin]
 refine SimP.of (fun Q E h => wpAny_BinOp h) (SimP.seq (ha cx D) fun va ya σ₁ Φ₁ h₁ k₁ e₁ I₁ S₁ r₁ => ?_)
 refine SimP.seq (hr cx (D.step S₁ I₁)) fun vi yi σ₂ Φ₂ h₂ k₂ e₂ I₂ S₂ r₂ => ?_
 refine SimP.opt fun x hx => SimP.opt fun y hy => SimP.opt fun r hr => SimP.ok fun Q E hQ => ?_
 exact bin_ok (s := { s with heap := h₂, toks := k₂ }) (fs := frs (e0 :: outer)) I₂ (I₂.deref (VR.mono S₂.ext r₁) hx) (I₂.deref r₂ hy) hr fun v Φ' h' k I' S' R' => hQ v Φ' h' k I' S' R'
theorem not_okE {a : E} {x : Expr} {pos : Pos} (ha : OkE W n C sc a x) : OkE W n C sc (.not a) (.UnaryOp .Not x pos) := by
 intro A e0 outer L env s Φ ρ σ fr cx D
 rw [evx_not]
 refine SimP.of (fun Q E h => wpAny_UnaryOp h) (SimP.seq (ha cx D) fun va ya σ₁ Φ₁ h₁ k₁ e₁ I₁ S₁ r₁ => ?_)
 refine SimP.opt fun b hb => SimP.ok fun Q E hQ => ?_
 have := asBool_some hb; subst this; cases r₁
 exact not_value (wpAny_truthy_bool (hQ _ Φ₁ h₁ k₁ I₁ (.refl ..) (RD.bool _)))
theorem not_okT {a : E} {x : Expr} {pos : Pos} (ha : OkT W n C sc a x) : OkT W n C sc (.not a) (.UnaryOp .Not x pos) := by
 intro A e0 outer L env s Φ ρ σ fr cx D
 have e : evB W.G C (.not a) fr σ = (evB W.G C a fr σ).bind fun b σ => .ok (!b) σ := by
  unfold evB; rw [evx_not]
  cases evE W.G C a fr σ with
  | ok v σ₁ => simp only [Res.bind_ok]; cases asBool v <;> rfl
  | err => rfl
  | stuck => rfl
 rw [e]
 refine SimP.of (fun Q E h => wpAny_isTrue_Not h) (SimP.seq (ha cx D) fun va ya σ₁ Φ₁ h₁ k₁ e₁ I₁ S₁ r₁ => ?_)
 cases r₁
 exact SimP.ok fun Q E hQ => hQ _ Φ₁ h₁ k₁ I₁ (.refl ..) rfl
theorem neg_okE {a : E} {x : Expr} {pos : Pos} (ha : OkE W n C sc a x) : OkE W n C sc (.neg a) (.UnaryOp .USub x pos) := by
 intro A e0 outer L env s Φ ρ σ fr cx D
 rw [evx_neg]
 refine SimP.of (fun Q E h => wpAny_UnaryOp h) (SimP.seq (ha cx D) fun va ya σ₁ Φ₁ h₁ k₁ e₁ I₁ S₁ r₁ => ?_)
 split
 ·rename_i i
  cases r₁
  exact SimP.ok fun Q E hQ => P.neg_int (hQ _ Φ₁ h₁ _ I₁ (.refl ..) (RD.int _ _))
 ·exact .stuck
theorem back_all {pos : Pos} : ∀ {xs : List E} {es : List Expr}, ckEs W.GN W.FN sc xs es = true → (backTo pos (starEach es env)).all (fun p => !p.1) = true
 | [], [], _ => rfl
 | [], _ :: _, h => by simp [Z146, Z147] at h
 | x :: xs, [], h => by simp [Z146, Z147] at h
 | x :: xs, e :: es, h => by
  simp only [Z146, Z147, Bool.and_eq_true] at h
  rw [starEach_cons h.1.1]
  have := back_all (pos := pos) h.2
  simpa [backTo] using this
theorem call_okE (B : Base W) (FO : FunsOk W) (hC : CallOk W n C) {f : Nat} {xs : List E} {as : List Expr} {id : Str} {px pos : Pos} (hg : sc.isGlob id = true) (hf : atName f W.FN id = true) (hck : ckEs W.GN W.FN sc xs as = true)
  (hs : ∀ {A : Around} {e0 : Env} {outer : List Env} {L : Addr} {env : Env} {s : Shared} {Φ : Fz} {ρ : List Addr} {σ : Store} {fr : Frame}, Cx W n A e0 outer L env sc → Dy W Φ ρ σ (e0 :: outer) env sc.vars fr s.heap → Sim W A (e0 :: outer) L ρ (spliced (backTo pos (starEach as env))) Φ s (evEs W.G C xs fr σ) (VRels ρ)) :
  OkE W n C sc (.call f xs) (.Call (.Name id px) as [] pos) := by
 intro A e0 outer L env s Φ ρ σ fr cx D
 obtain ⟨hv, hd⟩ := Sc.isGlob_iff hg
 obtain ⟨a, o, fd, hm, ho, hdat⟩ := FO f id (atName_iff hf)
 rw [evx_call]
 refine SimP.of (P' := fun Q E s => wpAny (model W.prog W.w) A (spliced (backTo pos (starEach as env))) (fun vs s₁ => (s₁.heap.get? a = some o ∧ o.data = .func fd) ∧ wpAny (model W.prog W.w) A (call (.ref a) vs) Q E s₁) E s)
  (fun Q E h => eval_Call_any (global_ok B cx D.inv hv hm hd (Calls.callWith_function (evalArgs_any (back_all hck) (by simpa using h))))) ?_
 refine SimP.seq (P2 := fun vs Q E s₁ => (s₁.heap.get? a = some o ∧ o.data = .func fd) ∧ wpAny (model W.prog W.w) A (call (.ref a) vs) Q E s₁) (hs cx D) fun vs ys σ' Φ' h' k e' I S r => ?_
 have D' := D.step S I
 exact SimP.of (fun Q E h => ⟨⟨I.keeps a o ho, hdat⟩, h⟩) (hC f id a (atName_iff hf) hm A _ L ρ Φ' σ' _ vs ys cx.frames cx.handled cx.depth cx.units I D'.stk r)
end
end Holk
namespace Holk
open PySem PyProof.Rows
section
variable {W : Wd} {n : Nat} {C : CallT} {A : Around} {e0 : Env} {outer : List Env} {L : Addr} {env : Env} {sc : Sc} {s : Shared} {Φ : Fz} {ρ : List Addr} {σ : Store} {fr : Frame}
noncomputable def OkBool (W : Wd) (n : Nat) (C : CallT) (sc : Sc) (op : BoolOp) (xs : List E) (es : List Expr) : Prop :=
 ∀ {A : Around} {e0 : Env} {outer : List Env} {L : Addr} {env : Env} {s : Shared} {Φ : Fz} {ρ : List Addr} {σ : Store} {fr : Frame} (pos : Pos), Cx W n A e0 outer L env sc → Dy W Φ ρ σ (e0 :: outer) env sc.vars fr s.heap → Sim W A (e0 :: outer) L ρ (boolOp pos op (evalEach es env)) Φ s ((match op with | .And => evAnd W.G C xs fr σ | .Or => evOr W.G C xs fr σ)) (VRel ρ)
noncomputable def OkAll (W : Wd) (n : Nat) (C : CallT) (sc : Sc) (op : BoolOp) (xs : List E) (es : List Expr) : Prop :=
 ∀ {A : Around} {e0 : Env} {outer : List Env} {L : Addr} {env : Env} {s : Shared} {Φ : Fz} {ρ : List Addr} {σ : Store} {fr : Frame}, Cx W n A e0 outer L env sc → Dy W Φ ρ σ (e0 :: outer) env sc.vars fr s.heap → Sim W A (e0 :: outer) L ρ (allTrue op es env) Φ s ((match op with | .And => evAnd W.G C xs fr σ | .Or => evOr W.G C xs fr σ).bind fun v σ => Res.of σ (asBool v)) BRel
theorem bool_one {op : BoolOp} {x : E} {e : Expr} (h : OkE W n C sc x e) : OkBool W n C sc op [x] [e] := by
 intro A e0 outer L env s Φ ρ σ fr pos cx D
 have q : (match op with | .And => evAnd W.G C [x] fr σ | .Or => evOr W.G C [x] fr σ) = (evE W.G C x fr σ).bind fun v σ => (Res.of σ (asBool v)).bind fun b σ => .ok (.d (.bool b)) σ := by
  cases op
  ·show evAnd W.G C [x] fr σ = _
   (first | rw [Z99] | rw [Z100]); congr 1; funext v σ; congr 1; funext b σ; cases b <;> rfl
  ·show evOr W.G C [x] fr σ = _
   (first | rw [Z97] | rw [Z98]); congr 1; funext v σ; congr 1; funext b σ; cases b <;> rfl
 rw [q]
 show Sim W A (e0 :: outer) L ρ (eval e env) Φ s _ _
 refine SimP.seq (P2 := fun v Q E s' => Q v s') (h cx D) fun v y σ' Φ' h' k e' I S r => SimP.opt fun b hb => SimP.ok fun Q E hQ => ?_
 have := asBool_some hb; subst this; cases r
 exact hQ _ Φ' h' k I (.refl ..) (RD.bool _)
theorem bool_and {x y : E} {xs : List E} {e f : Expr} {es : List Expr} (h : OkE W n C sc x e) (hr : OkBool W n C sc .And (y :: xs) (f :: es)) : OkBool W n C sc .And (x :: y :: xs) (e :: f :: es) := by
 intro A e0 outer L env s Φ ρ σ fr pos cx D
 show Sim W A (e0 :: outer) L ρ (boolOp pos .And (evalEach (e :: f :: es) env)) Φ s (evAnd W.G C (x :: y :: xs) fr σ) _
 (first | rw [Z99] | rw [Z100])
 have : boolOp pos .And (evalEach (e :: f :: es) env) = (do
  let v ← eval e env
  standAt pos
  let t ← holding [v] (truthy v)
  match BoolOp.And, t with
  | .And, false | .Or, true => pure v
  | _, _ => boolOp pos .And (evalEach (f :: es) env)) := rfl
 rw [this]
 refine SimP.of (P' := fun Q E s => wpAny (model W.prog W.w) A (eval e env) (fun v s₁ => wpAny (model W.prog W.w) A (truthy v) (fun t s₂ => if t then wpAny (model W.prog W.w) A (boolOp pos .And (evalEach (f :: es) env)) Q E s₂ else Q v s₂) E s₁) E s) (fun Q E h => ?_) ?_
 ·refine wpAny_bind (wpAny_mono h (fun v s₁ h₁ => wpAny_bind (wpAny_standAt (wpAny_bind (wpAny_holding (wpAny_mono h₁ (fun t s₂ h₂ => ?_) fun _ _ x => x))))) fun _ _ x => x)
  cases t
  ·exact wpAny_pure h₂
  ·exact h₂
 ·refine SimP.seq (P2 := fun v Q E s₁ => wpAny (model W.prog W.w) A (truthy v) (fun t s₂ => if t then wpAny (model W.prog W.w) A (boolOp pos .And (evalEach (f :: es) env)) Q E s₂ else Q v s₂) E s₁) (h cx D) fun v y σ' Φ' h' k e' I S r => SimP.opt fun b hb => ?_
  have := asBool_some hb; subst this; cases r
  cases b
  ·exact SimP.ok fun Q E hQ => wpAny_truthy_bool (hQ _ Φ' h' k I (.refl ..) (RD.bool _))
  ·exact SimP.of (fun Q E h => wpAny_truthy_bool h) (hr pos cx (D.step S I))
theorem bool_or {x y : E} {xs : List E} {e f : Expr} {es : List Expr} (h : OkE W n C sc x e) (hr : OkBool W n C sc .Or (y :: xs) (f :: es)) : OkBool W n C sc .Or (x :: y :: xs) (e :: f :: es) := by
 intro A e0 outer L env s Φ ρ σ fr pos cx D
 show Sim W A (e0 :: outer) L ρ (boolOp pos .Or (evalEach (e :: f :: es) env)) Φ s (evOr W.G C (x :: y :: xs) fr σ) _
 (first | rw [Z97] | rw [Z98])
 have : boolOp pos .Or (evalEach (e :: f :: es) env) = (do
  let v ← eval e env
  standAt pos
  let t ← holding [v] (truthy v)
  match BoolOp.Or, t with
  | .And, false | .Or, true => pure v
  | _, _ => boolOp pos .Or (evalEach (f :: es) env)) := rfl
 rw [this]
 refine SimP.of (P' := fun Q E s => wpAny (model W.prog W.w) A (eval e env) (fun v s₁ => wpAny (model W.prog W.w) A (truthy v) (fun t s₂ => if t then Q v s₂ else wpAny (model W.prog W.w) A (boolOp pos .Or (evalEach (f :: es) env)) Q E s₂) E s₁) E s) (fun Q E h => ?_) ?_
 ·refine wpAny_bind (wpAny_mono h (fun v s₁ h₁ => wpAny_bind (wpAny_standAt (wpAny_bind (wpAny_holding (wpAny_mono h₁ (fun t s₂ h₂ => ?_) fun _ _ x => x))))) fun _ _ x => x)
  cases t
  ·exact h₂
  ·exact wpAny_pure h₂
 ·refine SimP.seq (P2 := fun v Q E s₁ => wpAny (model W.prog W.w) A (truthy v) (fun t s₂ => if t then Q v s₂ else wpAny (model W.prog W.w) A (boolOp pos .Or (evalEach (f :: es) env)) Q E s₂) E s₁) (h cx D) fun v y σ' Φ' h' k e' I S r => SimP.opt fun b hb => ?_
  have := asBool_some hb; subst this; cases r
  cases b
  ·exact SimP.of (fun Q E h => wpAny_truthy_bool h) (hr pos cx (D.step S I))
  ·exact SimP.ok fun Q E hQ => wpAny_truthy_bool (hQ _ Φ' h' k I (.refl ..) (RD.bool _))
theorem all_and_nil : OkAll W n C sc .And [] [] := by
 intro A e0 outer L env s Φ ρ σ fr cx D
 exact SimP.ok (σ := σ) fun Q E hQ => wpAny_allTrue_And_nil (hQ _ Φ s.heap s.toks D.inv (.refl ..) rfl)
theorem all_or_nil : OkAll W n C sc .Or [] [] := by
 intro A e0 outer L env s Φ ρ σ fr cx D
 exact SimP.ok (σ := σ) fun Q E hQ => wpAny_allTrue_Or_nil (hQ _ Φ s.heap s.toks D.inv (.refl ..) rfl)
theorem all_and {x : E} {xs : List E} {e : Expr} {es : List Expr} (h : OkT W n C sc x e) (hr : OkAll W n C sc .And xs es) : OkAll W n C sc .And (x :: xs) (e :: es) := by
 intro A e0 outer L env s Φ ρ σ fr cx D
 have q : (evAnd W.G C (x :: xs) fr σ).bind (fun v σ => Res.of σ (asBool v)) = (evB W.G C x fr σ).bind fun b σ => if b then (evAnd W.G C xs fr σ).bind (fun v σ => Res.of σ (asBool v)) else .ok false σ := by
  (first | rw [Z99] | rw [Z100]); unfold evB
  cases evE W.G C x fr σ with
  | ok v σ₁ =>
   simp only [Res.bind_ok]
   cases asBool v with
   | none => rfl
   | some b => cases b <;> rfl
  | err => rfl
  | stuck => rfl
 show Sim W A (e0 :: outer) L ρ (allTrue .And (e :: es) env) Φ s ((evAnd W.G C (x :: xs) fr σ).bind (fun v σ => Res.of σ (asBool v))) BRel
 rw [q]
 refine SimP.of (fun Q E h => wpAny_allTrue_And_cons h) (SimP.seq (P2 := fun b Q E s₁ => if b then wpAny (model W.prog W.w) A (allTrue .And es env) Q E s₁ else Q false s₁) (h cx D) fun b b' σ' Φ' h' k e' I S r => ?_)
 cases r
 cases b
 ·exact SimP.ok fun Q E hQ => hQ _ Φ' h' k I (.refl ..) rfl
 ·exact hr cx (D.step S I)
theorem all_or {x : E} {xs : List E} {e : Expr} {es : List Expr} (h : OkT W n C sc x e) (hr : OkAll W n C sc .Or xs es) : OkAll W n C sc .Or (x :: xs) (e :: es) := by
 intro A e0 outer L env s Φ ρ σ fr cx D
 have q : (evOr W.G C (x :: xs) fr σ).bind (fun v σ => Res.of σ (asBool v)) = (evB W.G C x fr σ).bind fun b σ => if b then .ok true σ else (evOr W.G C xs fr σ).bind (fun v σ => Res.of σ (asBool v)) := by
  (first | rw [Z97] | rw [Z98]); unfold evB
  cases evE W.G C x fr σ with
  | ok v σ₁ =>
   simp only [Res.bind_ok]
   cases asBool v with
   | none => rfl
   | some b => cases b <;> rfl
  | err => rfl
  | stuck => rfl
 show Sim W A (e0 :: outer) L ρ (allTrue .Or (e :: es) env) Φ s ((evOr W.G C (x :: xs) fr σ).bind (fun v σ => Res.of σ (asBool v))) BRel
 rw [q]
 refine SimP.of (fun Q E h => wpAny_allTrue_Or_cons h) (SimP.seq (P2 := fun b Q E s₁ => if b then Q true s₁ else wpAny (model W.prog W.w) A (allTrue .Or es env) Q E s₁) (h cx D) fun b b' σ' Φ' h' k e' I S r => ?_)
 cases r
 cases b
 ·exact hr cx (D.step S I)
 ·exact SimP.ok fun Q E hQ => hQ _ Φ' h' k I (.refl ..) rfl
theorem back_one {x : Expr} {pos : Pos} (h : notStar x = true) : backTo pos (starEach [x] env) = [(false, eval x env)] := by
 rw [starEach_cons h]; rfl
theorem call1_builtin {M : Model} {E : Value → Shared → Prop} {Q : Value → Shared → Prop} {pos : Pos} {id : String} {t : Sem Value} (h : wpAny M A t (fun v s₁ => wpAny M A (call (.builtin id) [v]) Q E s₁) E s) : wpAny M A (callWith pos (.builtin id) [] [(false, t)] []) Q E s :=
 Calls.callWith_builtin rfl (Calls.evalArgs_plain (Calls.spliced_cons (wpAny_mono h (fun v s₁ h₁ => Calls.spliced_nil h₁) fun _ _ x => x)))
theorem call1_type {M : Model} {E : Value → Shared → Prop} {Q : Value → Shared → Prop} {pos : Pos} {T : String} {t : Sem Value} (h : wpAny M A t (fun v s₁ => wpAny M A (call (.type T) [v]) Q E s₁) E s) : wpAny M A (callWith pos (.type T) [] [(false, t)] []) Q E s :=
 PyProof.Rows.callWith_type rfl (Calls.evalArgs_plain (Calls.spliced_cons (wpAny_mono h (fun v s₁ h₁ => Calls.spliced_nil h₁) fun _ _ x => x)))
theorem len_okE (B : Base W) {a : E} {x : Expr} {id : Str} {px pos : Pos} (hg : sc.isGlob id = true) (hid : id = ("len" : Str)) (hst : notStar x = true) (ha : OkE W n C sc a x) : OkE W n C sc (.len a) (.Call (.Name id px) [x] [] pos) := by
 intro A e0 outer L env s Φ ρ σ fr cx D
 obtain ⟨hv, hd⟩ := Sc.isGlob_iff hg
 subst hid
 rw [evx_len]
 refine SimP.of (fun Q E h => eval_Call_any (builtin_ok B cx D.inv hv B.len.1 B.len.2 hd (by rw [back_one hst]; exact call1_builtin h))) (SimP.seq (ha cx D) fun v y σ' Φ' h' k e' I S r => SimP.opt fun d hd => SimP.opt fun z hz => SimP.ok fun Q E hQ => ?_)
 have rt := I.deref r hd
 cases d <;> simp only [lenOp, reduceCtorEq, Option.ite_none_right_eq_some] at hz
 ·obtain ⟨hl, hz⟩ := hz; cases hz
  obtain ⟨a, vs, m, rfl, ha, rs⟩ := rt.list I.frz
  have := rs.length
  have hlim : lim = 1048576 := rfl
  refine Calls.call_len_list (s := { s with heap := h', toks := k }) ⟨_, ha, rfl, m, rfl⟩ (by simp only [List.size_toArray]; lia) ?_
  have e : vs.toArray.size = vs.length := List.size_toArray
  rw [e, this]
  exact hQ _ Φ' h' _ I (.refl ..) (RD.int _ _)
 ·obtain ⟨hl, hz⟩ := hz; cases hz
  obtain ⟨a, vs, m, rfl, ha, rs⟩ := rt.tuple I.frz
  have := rs.length
  have hlim : lim = 1048576 := rfl
  refine P.len_tuple (s := { s with heap := h', toks := k }) (n := m) ha (by simp only [List.size_toArray]; lia) ?_
  have e : vs.toArray.size = vs.length := List.size_toArray
  rw [e, this]
  exact hQ _ Φ' h' _ I (.refl ..) (RD.int _ _)
theorem toTup_okE (B : Base W) {a : E} {x : Expr} {id : Str} {px pos : Pos} (hg : sc.isGlob id = true) (hid : id = ("tuple" : Str)) (hst : notStar x = true) (ha : OkE W n C sc a x) : OkE W n C sc (.toTup a) (.Call (.Name id px) [x] [] pos) := by
 intro A e0 outer L env s Φ ρ σ fr cx D
 obtain ⟨hv, hd⟩ := Sc.isGlob_iff hg
 subst hid
 rw [evx_toTup]
 refine SimP.of (fun Q E h => eval_Call_any (builtin_ok B cx D.inv hv B.tuple.1 B.tuple.2 hd (by rw [back_one hst]; exact call1_type h))) (SimP.seq (ha cx D) fun v y σ' Φ' h' k e' I S r => SimP.opt fun d hd => SimP.opt fun z hz => SimP.ok fun Q E hQ => ?_)
 have rt := I.deref r hd
 cases d <;> simp only [toTupOp, itemsOf, Option.bind_none, Option.bind_some, reduceCtorEq, Option.ite_none_right_eq_some] at hz
 ·obtain ⟨hl, hz⟩ := hz; cases hz
  obtain ⟨a, vs, m, rfl, ha, rs⟩ := rt.list I.frz
  have := rs.length
  have hlim := lim_le
  refine call_tuple_list (s := { s with heap := h', toks := k }) ⟨_, ha, rfl, m, rfl⟩ (fun h₁ hk => ?_) (by simp only [List.size_toArray]; lia)
  have I₁ := I.ext hk
  obtain ⟨f1, f2⟩ := I₁.freeze (fs := frs (e0 :: outer)) (push_keep h₁ (tupO vs 0)) (Heap.get?_size _) (Heap.get?_push_size h₁ (o := tupO vs 0) rfl)
  exact hQ _ _ _ k f1 ((Step.of_ext hk).trans f2) (RD.tuple (Fz.add_self ..) (rs.mono f2.ext))
 ·obtain ⟨hl, hz⟩ := hz; cases hz
  obtain ⟨a, vs, m, rfl, ha, rs⟩ := rt.tuple I.frz
  cases rt with
  | frz rt => exact call_tuple_same (s := { s with heap := h', toks := k }) ⟨_, ha, rfl, m, rfl⟩ (hQ _ Φ' h' k I (.refl ..) rt)
theorem list_copy {A : Around} {l : List Env} {h' : Heap} {k : Nat} {s : Shared} (I : Inv W Φ ρ σ s.heap) {u : Value} {d : PyData} {xs : List PyData} (rt : RT s.heap Φ u d) (hx : itemsOf d = some xs) (hl : xs.length ≤ lim) {Q : Value → Shared → Prop} {E : Value → Shared → Prop}
  (hQ : ∀ h' vs m, (∀ b o', s.heap.get? b = some o' → h'.get? b = some o') → h'.get? s.heap.objs.size = some (lstO vs m) → RDs Φ vs xs → Q (.ref s.heap.objs.size) { s with heap := h' }) : wpAny (model W.prog W.w) A (call (.type "list") [u]) Q E s := by
 have hlim := lim_le
 cases d <;> simp only [itemsOf, reduceCtorEq] at hx
 ·cases hx
  obtain ⟨a, vs, m, rfl, ha, rs⟩ := rt.list I.frz
  have := rs.length
  exact call_list_seq a (T := "list") (.inl rfl) ha rfl rfl (fun h' c' hk ho => hQ h' vs c' hk ho rs) (by simp only [List.size_toArray]; lia)
 ·cases hx
  obtain ⟨a, vs, m, rfl, ha, rs⟩ := rt.tuple I.frz
  have := rs.length
  exact call_list_seq a (T := "tuple") (.inr rfl) ha rfl rfl (fun h' c' hk ho => hQ h' vs c' hk ho rs) (by simp only [List.size_toArray]; lia)
theorem toLst_okE (B : Base W) {a : E} {x : Expr} {id : Str} {px pos : Pos} (hg : sc.isGlob id = true) (hid : id = ("list" : Str)) (hst : notStar x = true) (ha : OkE W n C sc a x) : OkE W n C sc (.toLst a) (.Call (.Name id px) [x] [] pos) := by
 intro A e0 outer L env s Φ ρ σ fr cx D
 obtain ⟨hv, hd⟩ := Sc.isGlob_iff hg
 subst hid
 rw [evx_toLst]
 refine SimP.of (fun Q E h => eval_Call_any (builtin_ok B cx D.inv hv B.list.1 B.list.2 hd (by rw [back_one hst]; exact call1_type h))) (SimP.seq (ha cx D) fun v y σ' Φ' h' k e' I S r => SimP.opt fun d hd => SimP.opt fun z hz => SimP.ok fun Q E hQ => ?_)
 have rt := I.deref r hd
 unfold toLstOp at hz
 cases hx : itemsOf d with
 | none => rw [hx] at hz; cases hz
 | some xs =>
  rw [hx] at hz
  simp only [Option.bind_some, Option.ite_none_right_eq_some] at hz
  obtain ⟨hl, hz⟩ := hz; cases hz
  refine list_copy (s := { s with heap := h', toks := k }) (l := e0 :: outer) (h' := h') (k := 0) I rt hx hl fun h₁ vs m hk ho rs => ?_
  obtain ⟨f1, f2⟩ := I.freeze (fs := frs (e0 :: outer)) hk (Heap.get?_size _) ho
  exact hQ _ _ _ k f1 f2 (RD.list (Fz.add_self ..) (rs.mono f2.ext))
theorem isBool_is {M : Model} {E : Value → Shared → Prop} {Q : Value → Shared → Prop} (h : Q (.bool true) s) : wpAny M A (compareOp .Is (.type "bool") (.type "bool")) Q E s := by
 show wpAny M A (do return .bool (← isSame (.type "bool") (.type "bool"))) Q E s
 exact wpAny_bind (wpAny_pure (wpAny_pure h))
theorem isBool_okE (B : Base W) {a : E} {x : Expr} {id id' : Str} {px px' pos pos' : Pos} (hg : sc.isGlob id = true) (hid : id = ("type" : Str)) (hg' : sc.isGlob id' = true) (hid' : id' = ("bool" : Str)) (hst : notStar x = true) (ha : OkE W n C sc a x) :
  OkE W n C sc (.isBool a) (.Compare (.Call (.Name id px) [x] [] pos) [.Is] [.Name id' px'] pos') := by
 intro A e0 outer L env s Φ ρ σ fr cx D
 obtain ⟨hv, hd⟩ := Sc.isGlob_iff hg
 obtain ⟨hv', hd'⟩ := Sc.isGlob_iff hg'
 subst hid hid'
 rw [evx_isBool]
 refine SimP.of (fun Q E h => wpAny_Compare1 (eval_Call_any (builtin_ok B cx D.inv hv B.type.1 B.type.2 hd (by rw [back_one hst]; exact call1_type h))) rfl) (SimP.seq (ha cx D) fun v y σ' Φ' h' k e' I S r => ?_)
 split
 ·cases r
  exact SimP.ok fun Q E hQ => call_type_of (s := { s with heap := h', toks := k }) (Tx := "bool") rfl (by decide) (builtin_ok B cx I hv' B.bool.1 B.bool.2 hd' (isBool_is (hQ _ Φ' h' k I (.refl ..) (RD.bool _))))
 ·exact .stuck
theorem isBool_okT (B : Base W) {a : E} {x : Expr} {id id' : Str} {px px' pos pos' : Pos} (hg : sc.isGlob id = true) (hid : id = ("type" : Str)) (hg' : sc.isGlob id' = true) (hid' : id' = ("bool" : Str)) (hst : notStar x = true) (ha : OkE W n C sc a x) :
  OkT W n C sc (.isBool a) (.Compare (.Call (.Name id px) [x] [] pos) [.Is] [.Name id' px'] pos') := by
 intro A e0 outer L env s Φ ρ σ fr cx D
 obtain ⟨hv, hd⟩ := Sc.isGlob_iff hg
 obtain ⟨hv', hd'⟩ := Sc.isGlob_iff hg'
 subst hid hid'
 have q : evB W.G C (.isBool a) fr σ = (evE W.G C a fr σ).bind fun v σ => match v with | .d (.bool _) => .ok true σ | _ => .stuck := by
  unfold evB; rw [evx_isBool]
  cases evE W.G C a fr σ with
  | ok v σ₁ =>
   simp only [Res.bind_ok]
   cases v with
   | loc => rfl
   | d x => cases x <;> rfl
  | err => rfl
  | stuck => rfl
 rw [q]
 refine SimP.of (fun Q E h => wpAny_isTrue_Compare1 (eval_Call_any (builtin_ok B cx D.inv hv B.type.1 B.type.2 hd (by rw [back_one hst]; exact call1_type h))) rfl) (SimP.seq (ha cx D) fun v y σ' Φ' h' k e' I S r => ?_)
 split
 ·cases r
  exact SimP.ok fun Q E hQ => call_type_of (s := { s with heap := h', toks := k }) (Tx := "bool") rfl (by decide) (builtin_ok B cx I hv' B.bool.1 B.bool.2 hd' (isBool_is (wpAny_truthy_bool (hQ _ Φ' h' k I (.refl ..) rfl))))
 ·exact .stuck
theorem dict_at (B : Base W) (D : Dy W Φ ρ σ (e0 :: outer) env sc.vars fr s.heap) {i : Nat} {kvs : List (Str × PyData)} (h : dictAt σ fr[i]? = some kvs) :
  ∃ m a, fr[i]? = some (some (.loc m)) ∧ ρ[m]? = some a ∧ σ[m]? = some (.dct kvs) ∧ (a == sysModules) = false ∧ ∃ ws, s.heap.DictOf (strKind W.prog W.w) a ws ∧ PR Φ ws kvs := by
 unfold dictAt at h
 split at h
 ·rename_i m hm
  split at h
  ·rename_i kvs' hk
   cases h
   have hlt : m < ρ.length := by rw [D.inv.len]; exact (List.getElem?_eq_some_iff.mp hk).1
   have ha : ρ[m]? = some ρ[m] := by simp [hlt]
   refine ⟨m, ρ[m], hm, ha, hk, ?_, D.inv.cell m _ _ ha hk⟩
   obtain ⟨o, ho⟩ := B.sys
   have h1 := D.inv.apart ρ[m] (List.getElem_mem hlt)
   by_cases q : ρ[m] = sysModules
   ·rw [q, D.inv.base _ o ho] at h1; cases h1
   ·simpa using q
  ·cases h
 ·cases h
theorem PR.lookup {ws : List (Str × Value)} {kvs : List (Str × PyData)} (r : PR Φ ws kvs) (k : Str) : (match kvs.lookup k with | some x => ∃ v, valueAt ws k = some v ∧ RD Φ v x | none => valueAt ws k = none) := by
 induction r with
 | nil => simp [valueAt]
 | cons e r ih =>
  rename_i k' v x ws kvs
  simp only [List.lookup_cons]
  by_cases q : k = k'
  ·subst q
   simp [valueAt, e]
  ·have : (k == k') = false := by simpa using q
   simp only [this]
   cases hk : kvs.lookup k with
   | none => rw [hk] at ih; simp only at ih ⊢; simpa [valueAt, q, Ne.symm q] using ih
   | some y => rw [hk] at ih; simp only at ih ⊢; obtain ⟨v', h1, h2⟩ := ih; exact ⟨v', by simpa [valueAt, q, Ne.symm q] using h1, h2⟩
end
end Holk
namespace Holk
open PySem PyProof.Rows
section
variable {W : Wd} {n : Nat} {C : CallT} {A : Around} {e0 : Env} {outer : List Env} {L : Addr} {env : Env} {sc : Sc} {s : Shared} {Φ : Fz} {ρ : List Addr} {σ : Store} {fr : Frame}
theorem PR.get {ws : List (Str × Value)} {kvs : List (Str × PyData)} (r : PR Φ ws kvs) {k : Str} {x : PyData} (h : kvs.lookup k = some x) : ∃ v, valueAt ws k = some v ∧ RD Φ v x := by
 have := r.lookup k
 rw [h] at this
 exact this
theorem isStrOf_self (k : Str) (t : Tok) : Value.isStrOf k (.str k t) = true := by simp [Value.isStrOf]
theorem has_in (B : Base W) (D : Dy W Φ ρ σ (e0 :: outer) env sc.vars fr s.heap) (cx : Cx W n A e0 outer L env sc) {i : Nat} {id k : Str} {px : Pos} {t : Tok} {kvs : List (Str × PyData)} {ng : Bool} {o : CmpOp} (ho : o = (if ng then CmpOp.NotIn else CmpOp.In))
  (hv : sc.vars[i]? = some (some id)) (hd : (id == ("__debug__" : Str)) = false) (h : dictAt σ fr[i]? = some kvs) {E : Value → Shared → Prop} {Q : Value → Shared → Prop} (hQ : ∀ k', Q (.bool (ng != (kvs.lookup k).isSome)) { s with toks := k' }) :
  wpAny (model W.prog W.w) A (eval (.Name id px) env) (fun b s₂ => wpAny (model W.prog W.w) A (compareOp o (.str k t) b) Q E s₂) E s := by
 obtain ⟨m, a, hf, ha, hs, hsm, ws, hdo, pr⟩ := dict_at B D h
 refine wpAny_Name (load_ok cx D hv hf fun u r => ?_) hd
 obtain ⟨a', ha', rfl⟩ := r
 rw [ha] at ha'; cases ha'
 have hl := pr.lookup k
 have hb : (valueAt ws k).isSome = (kvs.lookup k).isSome := by
  cases hk : kvs.lookup k with
  | none => rw [hk] at hl; simp only at hl; rw [hl]; rfl
  | some x => rw [hk] at hl; obtain ⟨v, h1, _⟩ := hl; rw [h1]; rfl
 subst ho
 cases ng with
 | false =>
  refine wpAny_in_of (knd := strKind W.prog W.w) (isStrOf_self k t) hsm hdo.mapOf ?_
  rw [hb]
  have := hQ (s.toks + 1)
  simpa using this
 | true =>
  refine wpAny_notIn_of (knd := strKind W.prog W.w) (isStrOf_self k t) hsm hdo.mapOf ?_
  rw [hb]
  have := hQ (s.toks + 1)
  simpa using this
theorem dHas_okE (B : Base W) {ng : Bool} {a : E} {i : Nat} {l : Expr} {o : CmpOp} {id : Str} {px pos : Pos} (ho : o = (if ng then CmpOp.NotIn else CmpOp.In)) (hi : sc.isVar i id = true) (ha : OkE W n C sc a l) : OkE W n C sc (.dHas ng a i) (.Compare l [o] [.Name id px] pos) := by
 intro A e0 outer L env s Φ ρ σ fr cx D
 obtain ⟨hv, hd⟩ := Sc.isVar_iff hi
 rw [evx_dHas]
 refine SimP.of (fun Q E h => wpAny_Compare1 h rfl) (SimP.seq (ha cx D) fun v y σ' Φ' h' k e' I S r => ?_)
 split
 ·cases r
  refine SimP.opt fun kvs hk => SimP.ok fun Q E hQ => ?_
  exact has_in (s := { s with heap := h', toks := k }) B (D.step S I) cx ho hv hd hk fun k' => hQ _ Φ' h' k' I (.refl ..) (RD.bool _)
 ·exact .stuck
theorem dHas_okT (B : Base W) {ng : Bool} {a : E} {i : Nat} {l : Expr} {o : CmpOp} {id : Str} {px pos : Pos} (ho : o = (if ng then CmpOp.NotIn else CmpOp.In)) (hi : sc.isVar i id = true) (ha : OkE W n C sc a l) : OkT W n C sc (.dHas ng a i) (.Compare l [o] [.Name id px] pos) := by
 intro A e0 outer L env s Φ ρ σ fr cx D
 obtain ⟨hv, hd⟩ := Sc.isVar_iff hi
 have q : evB W.G C (.dHas ng a i) fr σ = (evE W.G C a fr σ).bind fun v σ => match v with
   | .d (.str k) => (Res.of σ (dictAt σ fr[i]?)).bind fun kvs σ => .ok (ng != (kvs.lookup k).isSome) σ
   | _ => .stuck := by
  unfold evB; rw [evx_dHas]
  cases evE W.G C a fr σ with
  | ok v σ₁ =>
   simp only [Res.bind_ok]
   cases v with
   | loc => rfl
   | d x =>
    cases x <;> try rfl
    simp only
    cases dictAt σ₁ fr[i]? <;> rfl
  | err => rfl
  | stuck => rfl
 rw [q]
 refine SimP.of (fun Q E h => wpAny_isTrue_Compare1 h rfl) (SimP.seq (ha cx D) fun v y σ' Φ' h' k e' I S r => ?_)
 split
 ·cases r
  refine SimP.opt fun kvs hk => SimP.ok fun Q E hQ => ?_
  exact has_in (s := { s with heap := h', toks := k }) B (D.step S I) cx ho hv hd hk fun k' => wpAny_truthy_bool (hQ _ Φ' h' k' I (.refl ..) rfl)
 ·exact .stuck
theorem dGet_okE (B : Base W) {a : E} {i : Nat} {sl : Expr} {id : Str} {px pos : Pos} (hsl : notSlice sl = true) (hi : sc.isVar i id = true) (ha : OkE W n C sc a sl) : OkE W n C sc (.dGet i a) (.Subscript (.Name id px) sl pos) := by
 intro A e0 outer L env s Φ ρ σ fr cx D
 obtain ⟨hv, hd⟩ := Sc.isVar_iff hi
 rw [evx_dGet]
 split
 ·rename_i m hm
  refine SimP.of (P' := fun Q E s => wpAny (model W.prog W.w) A (eval sl env) (fun i s₂ => ∀ u, VR Φ ρ u (.loc m) → wpAny (model W.prog W.w) A (subscriptTail (.Name id px) sl u i) Q E s₂) E s)
   (fun Q E h => Subscript_ (wpAny_Name (load_ok cx D hv hm fun u r => wpAny_mono h (fun _ _ q => q u r) fun _ _ q => q) hd)) ?_
  refine SimP.seq (P2 := fun i Q E s₂ => ∀ u, VR Φ ρ u (.loc m) → wpAny (model W.prog W.w) A (subscriptTail (.Name id px) sl u i) Q E s₂) (ha cx D) fun v y σ' Φ' h' k e' I S r => ?_
  split
  ·obtain ⟨t, rfl, hst⟩ := (RT.frz r : RT s.heap Φ' v (.str _)).str
   refine SimP.opt fun kvs hk => SimP.opt fun x hx => SimP.ok fun Q E hQ => ?_
   rintro u ⟨a, hρ, rfl⟩
   obtain ⟨m', a', hf, ha', hs, hsm, ws, hdo, pr⟩ := dict_at (s := { s with heap := h', toks := k }) B (D.step S I) (i := i) (by rw [hm]; exact hk)
   rw [hm] at hf; cases hf
   rw [hρ] at ha'; cases ha'
   obtain ⟨v, h1, h2⟩ := pr.get hx
   exact sub_tail (s := { s with heap := h', toks := k }) (.inl ⟨_, rfl⟩) hdo.mapOf.typeIs slot_dict_getitem.lookup (wpAny_getItem_of (s := { s with heap := h', toks := k }) (knd := strKind W.prog W.w) (isStrOf_self _ t) hdo.mapOf h1 (hQ v Φ' h' _ I (.refl ..) h2)) (subscripted_plain hsl _ _)
  ·exact .stuck
 ·exact .stuck
theorem evB_btw {G : List PyData} {a b c : E} : evB G C (.btw a b c) fr σ = (evE G C a fr σ).bind fun va σ => (evE G C b fr σ).bind fun vb σ =>
   (Res.of σ (deref σ va)).bind fun x σ => (Res.of σ (deref σ vb)).bind fun y σ => (Res.of σ (cmpOp .le x y)).bind fun r σ =>
    if r then (evE G C c fr σ).bind fun vc σ => (Res.of σ (deref σ vc)).bind fun z σ => (Res.of σ (cmpOp .lt y z)).bind fun r σ => .ok r σ
    else .ok false σ := by
 unfold evB
 rw [evx_btw]
 cases evE G C a fr σ with
 | ok va σ₁ =>
  simp only [Res.bind_ok]
  cases evE G C b fr σ₁ with
  | ok vb σ₂ =>
   simp only [Res.bind_ok]
   cases deref σ₂ va with
   | none => rfl
   | some x =>
    cases h2 : deref σ₂ vb with
    | none => simp only [Res.of, Res.bind, h2]
    | some y =>
     simp only [Res.of, Res.bind, h2]
     cases cmpOp .le x y with
     | none => rfl
     | some r =>
      cases r with
      | false => rfl
      | true =>
       simp only [if_true]
       cases evE G C c fr σ₂ with
       | ok vc σ₃ =>
        simp only
        cases deref σ₃ vc with
        | none => rfl
        | some z => simp only; cases cmpOp .lt y z <;> rfl
       | err => rfl
       | stuck => rfl
  | err => rfl
  | stuck => rfl
 | err => rfl
 | stuck => rfl
theorem le_int {x y : PyData} {r : Bool} (h : cmpOp .le x y = some r) : ∃ i j, x = .int i ∧ y = .int j := by
 obtain ⟨i, j, h1, h2, _⟩ := intC_iff h
 exact ⟨i, j, h1, h2⟩
theorem deref_int {v : V} {j : Int} (h : deref σ v = some (.int j)) : v = .d (.int j) := by
 cases v with
 | d x => simp [deref] at h; rw [h]
 | loc m => simp only [deref] at h; split at h <;> simp at h
theorem btw_okT {a b c : E} {l m r : Expr} {pos : Pos} (ha : OkE W n C sc a l) (hb : OkE W n C sc b m) (hc : OkE W n C sc c r) : OkT W n C sc (.btw a b c) (.Compare l [.LtE, .Lt] [m, r] pos) := by
 intro A e0 outer L env s Φ ρ σ fr cx D
 rw [evB_btw]
 refine SimP.of (P' := fun Q E s => wpAny (model W.prog W.w) A (eval l env) (fun va s₁ => wpAny (model W.prog W.w) A (eval m env) (fun vb s₂ => wpAny (model W.prog W.w) A (compareOp .LtE va vb) (fun c s₃ => wpAny (model W.prog W.w) A (truthy c) (fun t s₄ =>
   if t then wpAny (model W.prog W.w) A (eval r env) (fun vc s₅ => wpAny (model W.prog W.w) A (compareOp .Lt vb vc) (fun c s₆ => wpAny (model W.prog W.w) A (truthy c) Q E s₆) E s₅) E s₄ else Q false s₄) E s₃) E s₂) E s₁) E s) (fun Q E h => ?_) ?_
 ·have e : isTrue (.Compare l [.LtE, .Lt] [m, r] pos) env (eval (.Compare l [.LtE, .Lt] [m, r] pos) env) = (do
    let left ← eval l env
    let rv ← holding [left] (eval m env)
    standAt pos
    let c ← holding [left, rv] (compareOp .LtE left rv)
    release [left, rv] [c]
    if ← holding [c, rv] (truthy c) then
     let rv' ← holding [rv] (markedBehindIn .Lt r (eval r env))
     standAt pos
     let c' ← operate [rv, rv'] (compareOp .Lt rv rv')
     holding [c'] (truthy c')
    else pure false) := rfl
  have hm : behindInMarks .Lt r = false := by cases r <;> first | rfl | simp [behindInMarks]
  rw [e, markedBehindIn_of_false hm]
  refine wpAny_bind (wpAny_mono h (fun va s₁ h₁ => wpAny_bind (wpAny_holding (wpAny_mono h₁ (fun vb s₂ h₂ => wpAny_bind (wpAny_standAt (wpAny_bind (wpAny_holding (wpAny_mono h₂ (fun c s₃ h₃ => wpAny_bind (wpAny_release (wpAny_bind (wpAny_holding (wpAny_mono h₃ (fun t s₄ h₄ => ?_) fun _ _ x => x))))) fun _ _ x => x))))) fun _ _ x => x))) fun _ _ x => x)
  cases t with
  | false => exact wpAny_pure h₄
  | true => exact wpAny_bind (wpAny_holding (wpAny_mono h₄ (fun vc s₅ h₅ => wpAny_bind (wpAny_standAt (wpAny_bind (wpAny_operating (wpAny_mono h₅ (fun c' s₆ h₆ => wpAny_holding h₆) fun _ _ x => x))))) fun _ _ x => x))
 ·refine SimP.seq (ha cx D) fun va ya σ₁ Φ₁ h₁ k₁ e₁ I₁ S₁ r₁ => ?_
  refine SimP.seq (hb cx (D.step S₁ I₁)) fun vb yb σ₂ Φ₂ h₂ k₂ e₂ I₂ S₂ r₂ => ?_
  have D₂ := (D.step S₁ I₁).step S₂ I₂
  refine SimP.opt fun x hx => SimP.opt fun y hy => SimP.opt fun t ht => ?_
  have q : ∀ (Q : Value → Shared → Prop) (E : Value → Shared → Prop), Q (.bool t) { s with heap := h₂, toks := k₂ } → wpAny (model W.prog W.w) A (compareOp .LtE va vb) Q E { s with heap := h₂, toks := k₂ } := fun Q E hQ => cmp_ok (s := { s with heap := h₂, toks := k₂ }) (op := .le) I₂ (cx_units cx) (I₂.deref (VR.mono S₂.ext r₁) hx) (I₂.deref r₂ hy) ht hQ
  obtain ⟨i, j, rfl, rfl⟩ := le_int ht
  have hyb := deref_int hy
  subst hyb
  cases t with
  | false => exact SimP.ok fun Q E hQ => q _ _ (wpAny_truthy_bool (hQ _ Φ₂ h₂ k₂ I₂ (.refl ..) rfl))
  | true =>
   refine SimP.of (P' := fun Q E s₄ => wpAny (model W.prog W.w) A (eval r env) (fun vc s₅ => wpAny (model W.prog W.w) A (compareOp .Lt vb vc) (fun c s₆ => wpAny (model W.prog W.w) A (truthy c) Q E s₆) E s₅) E s₄) (fun Q E h => q _ _ (wpAny_truthy_bool (by simpa using h))) ?_
   refine SimP.seq (P2 := fun vc Q E s₅ => wpAny (model W.prog W.w) A (compareOp .Lt vb vc) (fun c s₆ => wpAny (model W.prog W.w) A (truthy c) Q E s₆) E s₅) (hc cx D₂) fun vc yc σ₃ Φ₃ h₃ k₃ e₃ I₃ S₃ r₃ => ?_
   refine SimP.opt fun z hz => SimP.opt fun t ht => SimP.ok fun Q E hQ => ?_
   exact cmp_ok (s := { s with heap := h₃, toks := k₃ }) (op := .lt) I₃ (cx_units cx) (.frz (RD.mono S₃.ext r₂)) (I₃.deref r₃ hz) ht (wpAny_truthy_bool (hQ _ Φ₃ h₃ k₃ I₃ (.refl ..) rfl))
end
end Holk
namespace Holk
open PySem PyProof.Rows
section
variable {W : Wd} {n : Nat} {C : CallT} {A : Around} {e0 : Env} {outer : List Env} {L : Addr} {env : Env} {sc : Sc} {s : Shared} {Φ : Fz} {ρ : List Addr} {σ : Store} {fr : Frame}
theorem Dy.alive {hs : Heap} (D : Dy W Φ ρ σ (e0 :: outer) env sc.vars fr hs) {T : Addr} (hT : hs.get? T = none) : T ≠ env.locals ∧ (∀ x, env.cells.lookup x ≠ some T) ∧ T ∉ ρ ∧ T ∉ frs (e0 :: outer) := by
 refine ⟨?_, fun x hx => ?_, fun h => ?_, fun h => ?_⟩
 ·rintro rfl; obtain ⟨m, o, _, _, e, _⟩ := D.frm.ns; rw [hT] at e; cases e
 ·obtain ⟨⟨ov, o, e, _⟩, _⟩ := D.frm.cell x T hx; rw [hT] at e; cases e
 ·obtain ⟨o, e⟩ := D.inv.live h; rw [hT] at e; cases e
 ·obtain ⟨_, _, o, e, _⟩ := D.stk.mem h; rw [hT] at e; cases e
theorem Dy.other {h h' : Heap} {T : Addr} (hT : T ≠ env.locals ∧ (∀ x, env.cells.lookup x ≠ some T) ∧ T ∉ ρ ∧ T ∉ frs (e0 :: outer)) (D : Dy W Φ ρ σ (e0 :: outer) env sc.vars fr h) (hΦ : Φ T = none)
  (k : ∀ a o, a ≠ T → h.get? a = some o → h'.get? a = some o) : Dy W Φ ρ σ (e0 :: outer) env sc.vars fr h' := by
 obtain ⟨h1, h2, h3, h4⟩ := hT
 refine ⟨⟨D.inv.base, fun a o e => k a o (fun q => by rw [q, hΦ] at e; cases e) (D.inv.frz a o e), D.inv.len, fun i a c p q => (D.inv.cell i a c p q).mono (fun _ _ q => q) (fun o q => k a o (fun r => h3 (r ▸ List.mem_of_getElem? p)) q), D.inv.nodup, D.inv.apart⟩, fun env' he' => ?_, ?_⟩
 ·obtain ⟨k', L', o, p1, p2, p3, p4, p5⟩ := D.stk env' he'
  exact ⟨k', L', o, p1, k L' o (fun r => h4 (r ▸ List.mem_filterMap.mpr ⟨env', he', p1⟩)) p2, p3, p4, p5⟩
 ·refine D.frm.kp (fun _ _ q => q) (fun _ _ _ => rfl) fun a ha o e => ⟨o.slots, ?_⟩
  refine k a o ?_ e
  rcases ha with rfl | ⟨x, hx⟩
  ·exact Ne.symm h1
  ·rintro rfl; exact h2 x hx
noncomputable def Cov (sc : Sc) (env : Env) (X : Addr → Prop) (i : Nat) : Prop := ∀ x, sc.vars[i]? = some (some x) → (env.kindOf x = some .local → X env.locals) ∧ (∀ c, env.kindOf x = some .cell → env.cells.lookup x = some c → X c)
theorem cov_own (i : Nat) : Cov sc env (own env) i := fun x _ => ⟨fun _ => .inl rfl, fun c _ hc => .inr ⟨x, hc⟩⟩
mutual
theorem asg_ok : ∀ (t : Tg) (e : Expr), ckT sc t e = true → ∀ {A : Around} {e0 : Env} {outer : List Env} {L : Addr} {env : Env} {s : Shared} {Φ : Fz} {ρ : List Addr} {σ : Store} {fr fr' : Frame} {n : Nat} {u : Value} {v : V} {X : Addr → Prop} (p : Nat → Bool), Cx W n A e0 outer L env sc → Dy W Φ ρ σ (e0 :: outer) env sc.vars fr s.heap → tgAll p t = true → (∀ i, p i = true → Cov sc env X i) → VR Φ ρ u v → asg σ t v fr = some fr' → ∀ {Q : Unit → Shared → Prop} {E : Value → Shared → Prop}, (∀ h' k, Dy W Φ ρ σ (e0 :: outer) env sc.vars fr' h' → Kp X (frs (e0 :: outer)) s.heap h' → Q () { s with heap := h', toks := k }) → wpAny (model W.prog W.w) A (assign e env u) Q E s
 | .var i, e, h, A, e0, outer, L, env, s, Φ, ρ, σ, fr, fr', n, u, v, X, p, cx, D, hp, hX, r, ha, Q, E, hQ => by
  replace h := anyS_iff h
  obtain ⟨id, ⟨px, rfl⟩, h⟩ := h
  obtain ⟨hv, hd⟩ := Sc.isVar_iff h
  obtain ⟨hlt, rfl⟩ := ite_iff ((setO_is v fr i).symm.trans ha)
  have hc := hX i hp id hv
  exact wpAny_assign_Name (store_ok cx D hv r hc.1 hc.2 fun h' k D' K' => hQ h' k D' K')
 | .tup ts, e, h, A, e0, outer, L, env, s, Φ, ρ, σ, fr, fr', n, u, v, X, p, cx, D, hp, hX, r, ha, Q, E, hQ => by
  replace h := anyS_iff h
  obtain ⟨es, ⟨k0, px, rfl⟩, h⟩ := h
  ·(first | rw [Z77] at ha | rw [Z78] at ha)
   split at ha
   ·rename_i xs hxs
    obtain ⟨a, vs, m, rfl, hg, rs⟩ := (D.inv.deref r hxs).tuple D.inv.frz
    have hlen := asgs_len ts es xs h ha
    have hl1 : (assignEach es env).length = es.length := (assignEach_all ts es h env).1
    refine wpAny_assign_Tuple cx.handled ⟨_, hg, rfl, m, rfl⟩ ?_ (assignEach_all ts es h env).2 fun h₁ hk => ?_
    ·have := rs.length
     simp only [List.size_toArray]
     lia
    ·have hk' : ∀ b o, s.heap.get? b = some o → h₁.get? b = some o := fun b o q => hk b o (Nat.ne_of_lt (Heap.lt_size q)) q
     have D₁ := D.step (Step.of_ext hk') (D.inv.ext hk')
     have := asgs_ok ts es h (s := { s with heap := h₁ }) p cx D₁ (by simpa [Z136, Z137] using hp) hX rs ha (Q := Q) (E := E) fun h' k D' K' => hQ h' k D' ((Kp.of_ext hk').trans K')
     simpa using this
   ·cases ha
theorem asgs_ok : ∀ (ts : List Tg) (es : List Expr), ckTs sc ts es = true → ∀ {A : Around} {e0 : Env} {outer : List Env} {L : Addr} {env : Env} {s : Shared} {Φ : Fz} {ρ : List Addr} {σ : Store} {fr fr' : Frame} {n : Nat} {vs : List Value} {xs : List PyData} {X : Addr → Prop} (p : Nat → Bool), Cx W n A e0 outer L env sc → Dy W Φ ρ σ (e0 :: outer) env sc.vars fr s.heap → tgsAll p ts = true → (∀ i, p i = true → Cov sc env X i) → RDs Φ vs xs → asgs σ ts xs fr = some fr' → ∀ {Q : Unit → Shared → Prop} {E : Value → Shared → Prop}, (∀ h' k, Dy W Φ ρ σ (e0 :: outer) env sc.vars fr' h' → Kp X (frs (e0 :: outer)) s.heap h' → Q () { s with heap := h', toks := k }) → wpAny (model W.prog W.w) A (assignInOrder ((assignEach es env).map (·.2)) vs) Q E s
 | [], es, h, A, e0, outer, L, env, s, Φ, ρ, σ, fr, fr', n, vs, xs, X, p, cx, D, hp, hX, r, ha, Q, E, hQ => by
  simp only [Z148, Z149, List.isEmpty_iff] at h
  subst h
  cases xs with
  | cons => simp [asgs] at ha
  | nil =>
   simp [asgs] at ha
   subst ha
   have := hQ s.heap s.toks D (.refl ..)
   exact wpAny_pure this
 | t :: ts, es, h, A, e0, outer, L, env, s, Φ, ρ, σ, fr, fr', n, vs, xs, X, p, cx, D, hp, hX, r, ha, Q, E, hQ => by
  unfold ckTs at h
  split at h
  ·rename_i e es
   simp only [Bool.and_eq_true] at h
   cases xs with
   | nil => simp [asgs] at ha
   | cons x xs =>
    cases r with
    | cons r1 r2 =>
     rw [asgs] at ha
     split at ha
     ·rename_i fr₁ h₁
      rw [assignEach_cons h.1.1]
      simp only [Z134, Z135, Bool.and_eq_true] at hp
      refine wpAny_bind (wpAny_holding (asg_ok t e h.1.2 p cx D hp.1 hX (v := .d x) r1 h₁ fun h' k D' K' => ?_))
      exact asgs_ok ts es h.2 (s := { s with heap := h', toks := k }) p cx D' hp.2 hX r2 ha fun h'' k' D'' K'' => hQ h'' k' D'' (K'.trans K'')
     ·cases ha
  ·cases h
theorem asgs_len : ∀ (ts : List Tg) (es : List Expr) (xs : List PyData), ckTs sc ts es = true → ∀ {σ : Store} {fr fr' : Frame}, asgs σ ts xs fr = some fr' → es.length = xs.length
 | [], es, xs, h, σ, fr, fr', ha => by
  simp only [Z148, Z149, List.isEmpty_iff] at h
  subst h
  cases xs with
  | cons => simp [asgs] at ha
  | nil => rfl
 | t :: ts, es, xs, h, σ, fr, fr', ha => by
  unfold ckTs at h
  split at h
  ·rename_i e es
   simp only [Bool.and_eq_true] at h
   cases xs with
   | nil => simp [asgs] at ha
   | cons x xs =>
    rw [asgs] at ha
    split at ha
    ·have := asgs_len ts es xs h.2 ha; simp [this]
    ·cases ha
  ·cases h
theorem assignEach_all : ∀ (ts : List Tg) (es : List Expr), ckTs sc ts es = true → ∀ env : Env, (assignEach es env).length = es.length ∧ (assignEach es env).findIdx? (·.1) = none
 | [], es, h, env => by
  simp only [Z148, Z149, List.isEmpty_iff] at h
  subst h
  exact ⟨rfl, rfl⟩
 | t :: ts, es, h, env => by
  unfold ckTs at h
  split at h
  ·rename_i e es
   simp only [Bool.and_eq_true] at h
   have ih := assignEach_all ts es h.2 env
   rw [assignEach_cons h.1.1]
   refine ⟨by simp [ih.1], ?_⟩
   rw [List.findIdx?_cons]
   simp [ih.2]
  ·cases h
end
inductive ItAt (Φ : Fz) (h : Heap) (it : Addr) : List Value → Prop
 | list {a : Addr} {vs : List Value} {m i : Nat} : Φ a = some (lstO vs m) → h.get? a = some (lstO vs m) → h.IsListIter it a i → ItAt Φ h it (vs.drop i)
 | tuple {a : Addr} {vs : List Value} {m i : Nat} : Φ a = some (tupO vs m) → h.get? a = some (tupO vs m) → h.IsTupleIter it a i → ItAt Φ h it (vs.drop i)
theorem ItAt.keep {Φ' : Fz} {h h' : Heap} {it : Addr} {vs : List Value} (x : ItAt Φ h it vs) (hext : ∀ a o, Φ a = some o → Φ' a = some o) (hf : ∀ a o, Φ' a = some o → h'.get? a = some o) (hi : ∀ o, h.get? it = some o → h'.get? it = some o) : ItAt Φ' h' it vs := by
 cases x with
 | list h1 h2 h3 => obtain ⟨o, e, r⟩ := h3; exact .list (hext _ _ h1) (hf _ _ (hext _ _ h1)) ⟨o, hi o e, r⟩
 | tuple h1 h2 h3 => obtain ⟨o, e, r⟩ := h3; exact .tuple (hext _ _ h1) (hf _ _ (hext _ _ h1)) ⟨o, hi o e, r⟩
theorem it_start (I : Inv W Φ ρ σ s.heap) {u : Value} {x : PyData} {xs : List PyData} (r : RD Φ u x) (hx : itemsOf x = some xs) {Q : Value → Shared → Prop} {E : Value → Shared → Prop}
  (hQ : ∀ (o : Obj) (vs : List Value), RDs Φ vs xs → o.isFreed = false → ItAt Φ (s.heap.push o) s.heap.objs.size vs → Q (.ref s.heap.objs.size) { s with heap := s.heap.push o }) : wpAny (model W.prog W.w) A (pyIter u) Q E s := by
 cases r <;> simp only [itemsOf, reduceCtorEq] at hx <;> cases hx
 ·rename_i a vs m h1 h2
  have hg := I.frz _ _ h1
  refine wpAny_pyIter_tuple ⟨_, hg, rfl, m, rfl⟩ (hQ _ vs h2 rfl ?_)
  exact ItAt.tuple (i := 0) h1 (Heap.get?_push_of_some _ hg) ⟨_, Heap.get?_push_size _ rfl, rfl, rfl⟩
 ·rename_i a vs m h1 h2
  have hg := I.frz _ _ h1
  refine wpAny_pyIter_list ⟨_, hg, rfl, m, rfl⟩ (hQ _ vs h2 rfl ?_)
  exact ItAt.list (i := 0) h1 (Heap.get?_push_of_some _ hg) ⟨_, Heap.get?_push_size _ rfl, rfl, rfl⟩
theorem it_next {it : Addr} {v : Value} {vs : List Value} (x : ItAt Φ s.heap it (v :: vs)) (hit : Φ it = none) {Q : Option Value → Shared → Prop} {E : Value → Shared → Prop}
  (hQ : ∀ h', ItAt Φ h' it vs → Heap.SameBut it s.heap h' → (∃ o, h'.get? it = some o) → Q (some v) { s with heap := h' }) : wpAny (model W.prog W.w) A (pyNext (.ref it)) Q E s := by
 generalize hl : v :: vs = l at x
 cases x with
 | list h1 h2 h3 =>
  rename_i a ws m i
  have hlt : i < ws.length := by
   rcases Nat.lt_or_ge i ws.length with h | h
   ·exact h
   ·rw [List.drop_eq_nil_of_le h] at hl; cases hl
  rw [List.drop_eq_getElem_cons hlt] at hl
  injection hl with e1 e2
  refine wpAny_pyNext_list_item (x := v) h3 ⟨_, h2, rfl, m, rfl⟩ (by simp [hlt, e1]) fun h' hi hs => ?_
  have ha : a ≠ it := by rintro rfl; rw [h1] at hit; cases hit
  rw [e2] at hQ
  exact hQ h' (.list h1 ((hs.2 a ha).trans h2) hi) hs (let ⟨o, e, _⟩ := hi; ⟨o, e⟩)
 | tuple h1 h2 h3 =>
  rename_i a ws m i
  have hlt : i < ws.length := by
   rcases Nat.lt_or_ge i ws.length with h | h
   ·exact h
   ·rw [List.drop_eq_nil_of_le h] at hl; cases hl
  rw [List.drop_eq_getElem_cons hlt] at hl
  injection hl with e1 e2
  refine wpAny_pyNext_tuple_item (x := v) h3 ⟨_, h2, rfl, m, rfl⟩ (by simp [hlt, e1]) fun h' hi hs => ?_
  have ha : a ≠ it := by rintro rfl; rw [h1] at hit; cases hit
  rw [e2] at hQ
  exact hQ h' (.tuple h1 ((hs.2 a ha).trans h2) hi) hs (let ⟨o, e, _⟩ := hi; ⟨o, e⟩)
theorem it_end {it : Addr} (hh : A.handled = none) (x : ItAt Φ s.heap it []) {Q : Option Value → Shared → Prop} {E : Value → Shared → Prop}
  (hQ : ∀ h', Heap.ExtBut it s.heap h' → Q none { s with heap := h' }) : wpAny (model W.prog W.w) A (pyNext (.ref it)) Q E s := by
 generalize hl : ([] : List Value) = l at x
 cases x with
 | list h1 h2 h3 =>
  rename_i a ws m i
  have : ws.length ≤ i := by
   rcases Nat.lt_or_ge i ws.length with h | h
   ·rw [List.drop_eq_getElem_cons h] at hl; cases hl
   ·exact h
  exact wpAny_pyNext_list_end hh h3 ⟨_, h2, rfl, m, rfl⟩ (by simp [this]) hQ
 | tuple h1 h2 h3 =>
  rename_i a ws m i
  have : ws.length ≤ i := by
   rcases Nat.lt_or_ge i ws.length with h | h
   ·rw [List.drop_eq_getElem_cons h] at hl; cases hl
   ·exact h
  exact wpAny_pyNext_tuple_end hh h3 ⟨_, h2, rfl, m, rfl⟩ (by simp [this]) hQ
theorem it_self {it : Addr} {vs : List Value} (x : ItAt Φ s.heap it vs) {Q : Value → Shared → Prop} {E : Value → Shared → Prop} (hQ : Q (.ref it) s) : wpAny (model W.prog W.w) A (pyIter (.ref it)) Q E s := by
 cases x with
 | list h1 h2 h3 => exact wpAny_pyIter_listiter h3 hQ
 | tuple h1 h2 h3 => exact wpAny_pyIter_tupleiter h3 hQ
theorem go_plain {it : Addr} {o : Obj} {c : String} (ho : s.heap.get? it = some o) (hc : o.cls = .type c)
  (hn : (["enumerate", "zip", "dict_itemiterator", "dict_reverseitemiterator", "odict_iterator", "itertools.zip_longest", "itertools.pairwise"].contains c) = false) {e : Expr} {v : Value} {Q : Unit → Shared → Prop} {E : Value → Shared → Prop} (hQ : Q () s) :
  wpAny (model W.prog W.w) A (letOwnedTupleGo e (.ref it) v) Q E s := by
 have key : wpAny (model W.prog W.w) A (do
   let (.ref r, .ref a) := (Value.ref it, v) | return
   let o ← load r
   match o.cls, o.data with
   | .type n, .fields vs =>
    if ["enumerate", "zip", "dict_itemiterator", "dict_reverseitemiterator", "odict_iterator", "itertools.zip_longest", "itertools.pairwise"].contains n && vs[0]? == some (rawInt a) then
     rule "for.unpacks-the-owned-tuple"
     updateField r 0 .none
   | _, _ => pure ()) Q E s := by
  cases v <;> try exact wpAny_pure hQ
  rename_i a
  refine wpAny_bind (wpAny_load ho ?_)
  rw [hc]
  cases o.data <;> try exact wpAny_pure hQ
  simp only [hn, Bool.false_and, Bool.false_eq_true, if_false]
  exact wpAny_pure hQ
 have p : wpAny (model W.prog W.w) A (pure () : Sem Unit) Q E s := wpAny_pure hQ
 cases e with
 | Tuple => exact key
 | List => exact key
 | _ => exact p
theorem it_go {it : Addr} {vs : List Value} (x : ItAt Φ s.heap it vs) {e : Expr} {v : Value} {Q : Unit → Shared → Prop} {E : Value → Shared → Prop} (hQ : Q () s) : wpAny (model W.prog W.w) A (letOwnedTupleGo e (.ref it) v) Q E s := by
 cases x with
 | list h1 h2 h3 => obtain ⟨o, ho, hc, _⟩ := h3; exact go_plain ho hc (by decide) hQ
 | tuple h1 h2 h3 => obtain ⟨o, ho, hc, _⟩ := h3; exact go_plain ho hc (by decide) hQ
end
end Holk
namespace Holk
open PySem PyProof.Rows
theorem nodup_lookup : ∀ {names : List (Str × NameKind)} {x : Str} {k : NameKind}, nodupB names = true → (x, k) ∈ names → names.lookup x = some k
 | [], _, _, _, h => by cases h
 | (y, j) :: r, x, k, hn, h => by
  simp only [Z138, Z139, Bool.and_eq_true, List.all_eq_true, Bool.not_eq_true'] at hn
  rw [List.lookup_cons]
  rcases List.mem_cons.mp h with e | h
  ·cases e; simp
  ·have := hn.1 _ h
   have q : (x == y) = false := by simpa using this
   rw [q]
   exact nodup_lookup hn.2 h
theorem nodup_index : ∀ {names : List (Str × NameKind)} {i j : Nat} {x : Str} {k l : NameKind}, nodupB names = true → names[i]? = some (x, k) → names[j]? = some (x, l) → i = j
 | [], i, j, x, k, l, _, h, _ => by simp at h
 | (y, m) :: r, 0, 0, x, k, l, hn, h, h' => rfl
 | (y, m) :: r, 0, j + 1, x, k, l, hn, h, h' => by
  simp only [Z138, Z139, Bool.and_eq_true, List.all_eq_true, Bool.not_eq_true'] at hn
  simp at h h'
  have := hn.1 _ (List.mem_of_getElem? h')
  simp [h.1] at this
 | (y, m) :: r, i + 1, 0, x, k, l, hn, h, h' => by
  simp only [Z138, Z139, Bool.and_eq_true, List.all_eq_true, Bool.not_eq_true'] at hn
  simp at h h'
  have := hn.1 _ (List.mem_of_getElem? h)
  simp [h'.1] at this
 | (y, m) :: r, i + 1, j + 1, x, k, l, hn, h, h' => by
  simp only [Z138, Z139, Bool.and_eq_true] at hn
  simp at h h'
  rw [nodup_index hn.2 h h']
theorem lookup_of_mem {α : Type} : ∀ {l : List (Str × α)} {x : Str} {c : α}, (x, c) ∈ l → ∃ c', l.lookup x = some c'
 | [], _, _, h => by cases h
 | (y, d) :: r, x, c, h => by
  rw [List.lookup_cons]
  cases hq : x == y with
  | true => exact ⟨d, rfl⟩
  | false =>
   rcases List.mem_cons.mp h with e | h
   ·cases e; simp at hq
   ·exact lookup_of_mem h
theorem closure_go {env : Env} (f : Str × NameKind → List (Str × Addr) → Sem (ForInStep (List (Str × Addr))))
  (hf : ∀ name kind cs, f (name, kind) cs = if kind == .free then (do let a ← cellOf env name; pure (.yield ((name, a) :: cs))) else pure (.yield cs)) :
  ∀ (names : List (Str × NameKind)) (acc : List (Str × Addr)), (∀ x ∈ names, x.2 = .free → ∃ c, env.cells.lookup x.1 = some c) →
   ∃ cl, forIn names acc f = pure cl ∧ (∀ x c, (x, c) ∈ cl → (x, c) ∈ acc ∨ env.cells.lookup x = some c) ∧ (∀ p ∈ acc, p ∈ cl) ∧ ∀ x ∈ names, x.2 = .free → ∃ c, (x.1, c) ∈ cl
 | [], acc, _ => ⟨acc, by rw [List.forIn_nil], fun _ _ h => .inl h, fun _ h => h, fun _ h => nomatch h⟩
 | (name, kind) :: r, acc, h => by
  rw [List.forIn_cons, hf]
  cases hk : kind == .free with
  | false =>
   obtain ⟨cl, h1, h2, h3, h4⟩ := closure_go f hf r acc fun x hx => h x (List.mem_cons_of_mem _ hx)
   refine ⟨cl, ?_, h2, h3, fun x hx hfr => ?_⟩
   ·simp only [Bool.false_eq_true, if_false, pure_bind]; exact h1
   ·rcases List.mem_cons.mp hx with rfl | hx
    ·simp at hfr; simp [hfr] at hk
    ·exact h4 x hx hfr
  | true =>
   have hfree : kind = .free := by simpa using hk
   obtain ⟨c, hc⟩ := h (name, kind) List.mem_cons_self hfree
   obtain ⟨cl, h1, h2, h3, h4⟩ := closure_go f hf r ((name, c) :: acc) fun x hx => h x (List.mem_cons_of_mem _ hx)
   refine ⟨cl, ?_, fun x d hm => ?_, fun p hp => h3 p (List.mem_cons_of_mem _ hp), fun x hx hfr => ?_⟩
   ·simp only [if_true]
    have : cellOf env name = pure c := by unfold cellOf; rw [hc]
    rw [this]
    simp only [pure_bind]; exact h1
   ·rcases h2 x d hm with hm | hm
    ·rcases List.mem_cons.mp hm with e | hm
     ·cases e; exact .inr hc
     ·exact .inl hm
    ·exact .inr hm
   ·rcases List.mem_cons.mp hx with rfl | hx
    ·exact ⟨c, h3 _ List.mem_cons_self⟩
    ·exact h4 x hx hfr
theorem closure_ok {env : Env} {scope : Scope} (h : ∀ x ∈ scope.names, x.2 = .free → ∃ c, env.cells.lookup x.1 = some c) :
  ∃ cl, closureFor scope env = pure cl ∧ (∀ x c, cl.lookup x = some c → env.cells.lookup x = some c) ∧ ∀ x ∈ scope.names, x.2 = .free → ∃ c, cl.lookup x.1 = some c := by
 obtain ⟨cl, h1, h2, h3, h4⟩ := closure_go (env := env) (fun x cs => if x.2 == .free then (do let a ← cellOf env x.1; pure (.yield ((x.1, a) :: cs))) else pure (.yield cs)) (fun _ _ _ => rfl) scope.names [] h
 refine ⟨cl, ?_, fun x c hc => ?_, fun x hx hf => ?_⟩
 ·unfold closureFor
  show (forIn scope.names [] _ >>= fun cs => pure cs) = _
  have e : (forIn scope.names ([] : List (Str × Addr)) fun (x : Str × NameKind) (r : List (Str × Addr)) => (match x with
    | (name, kind) => if (kind == NameKind.free) = true then do let __do_lift ← cellOf env name; pure (ForInStep.yield ((name, __do_lift) :: r)) else pure (ForInStep.yield r) : Sem (ForInStep (List (Str × Addr))))) = pure cl := h1
  rw [e]; rfl
 ·rcases h2 x c (mem_of_lookup hc) with q | q
  ·cases q
  ·exact q
 ·obtain ⟨c, hc⟩ := h4 x hx hf
  exact lookup_of_mem hc
theorem lookup_relabel {names : List (Str × NameKind)} {p : Str → Bool} : ∀ {x : Str} {k : NameKind}, names.lookup x = some k →
  (names.map fun (n, k) => if (k == NameKind.free && p n) then (n, NameKind.cell) else (n, k)).lookup x = some (if (k == NameKind.free && p x) then .cell else k) := by
 induction names with
 | nil => intro x k h; simp at h
 | cons q r ih =>
  obtain ⟨n, j⟩ := q
  intro x k h
  have e : (List.map (fun (x : Str × NameKind) => match x with | (n, k) => if (k == NameKind.free && p n) = true then (n, NameKind.cell) else (n, k)) ((n, j) :: r)) =
   (n, if (j == NameKind.free && p n) then .cell else j) :: List.map (fun (x : Str × NameKind) => match x with | (n, k) => if (k == NameKind.free && p n) = true then (n, NameKind.cell) else (n, k)) r := by
   rw [List.map_cons]; congr 1; dsimp only; split <;> rfl
  rw [e, List.lookup_cons]
  rw [List.lookup_cons] at h
  cases hx : x == n with
  | true =>
   rw [hx] at h
   have : x = n := by simpa using hx
   subst this
   cases h
   rfl
  | false => rw [hx] at h; exact ih h
section
variable {W : Wd} {n : Nat} {C : CallT} {A : Around} {e0 : Env} {outer : List Env} {L : Addr} {env : Env} {sc : Sc} {s : Shared} {Φ : Fz} {ρ : List Addr} {σ : Store} {fr : Frame}
theorem relabel_names (cx : Cx W n A e0 outer L env sc) (scope : Scope) : (relabel scope env).names = (compSc sc scope).names := by
 unfold relabel compSc
 dsimp only
 refine List.map_congr_left fun x hx => ?_
 obtain ⟨y, k⟩ := x
 dsimp only
 unfold Env.kindOf
 rw [cx.kind, cx.names]
 simp
structure ScopeOk (sc : Sc) (scope : Scope) : Prop where
 kind : scope.kind = .function
 nodup : nodupB scope.names = true
 nocell : ∀ y ∈ scope.names, y.2 ≠ .cell
 free : ∀ y ∈ scope.names, y.2 = .free → sc.names.lookup y.1 = some .cell ∧ some y.1 ∈ sc.vars
theorem ckScope_iff {sc : Sc} {scope : Scope} (h : ckScope sc scope = true) : ScopeOk sc scope := by
 simp only [ckScope, Bool.and_eq_true, List.all_eq_true, beq_iff_eq] at h
 obtain ⟨⟨h1, h2⟩, h3⟩ := h
 refine ⟨h1, h2, fun y hy => ?_, fun y hy hf => ?_⟩
 ·have := (h3 y hy).1; simpa using this
 ·have := (h3 y hy).2
  rw [hf] at this
  simpa using this
theorem comp_free (cx : Cx W n A e0 outer L env sc) {h : Heap} (D : Dy W Φ ρ σ (e0 :: outer) env sc.vars fr h) {scope : Scope} (S : ScopeOk sc scope) : ∀ x ∈ scope.names, x.2 = .free → ∃ c, env.cells.lookup x.1 = some c := fun x hx hf => by
 obtain ⟨h1, h2⟩ := S.free x hx hf
 obtain ⟨i, hi⟩ := List.getElem?_of_mem h2
 obtain ⟨ov, hh, _⟩ := D.frm.val i x.1 hi
 rcases hh with ⟨hk, _⟩ | ⟨_, c, hc, _⟩
 ·unfold Env.kindOf at hk; rw [cx.names, h1] at hk; cases hk
 ·exact ⟨c, hc⟩
theorem comp_cx (cx : Cx W n A e0 outer L env sc) {scope : Scope} (S : ScopeOk sc scope) (cl : List (Str × Addr)) (Cc : Addr) : Cx W n A e0 outer L (compEnvC scope cl Cc env) (compSc sc scope) :=
 ⟨cx.frames, cx.f0, cx.f, cx.handled, cx.depth, cx.units, S.kind, cx.glob, cx.blt, relabel_names cx scope⟩
theorem comp_frame (cx : Cx W n A e0 outer L env sc) {h : Heap} (D : Dy W Φ ρ σ (e0 :: outer) env sc.vars fr h) {scope : Scope} (S : ScopeOk sc scope) {cl : List (Str × Addr)} (hcl : ∀ x c, cl.lookup x = some c → env.cells.lookup x = some c)
  (hcf : ∀ x ∈ scope.names, x.2 = .free → ∃ c, cl.lookup x.1 = some c) {Cc : Addr} {m : Str → Option Value} (hn : h.Ns Cc m) (hΦ : Φ Cc = none) (hρ : Cc ∉ ρ) (hne : ∀ x, env.cells.lookup x ≠ some Cc) :
  FrOk Φ ρ (compEnvC scope cl Cc env) (compSc sc scope).vars (fr ++ List.replicate scope.names.length none) h := by
 have hkind : ∀ x k, scope.names.lookup x = some k → (compEnvC scope cl Cc env).kindOf x = some (if (k == .free && sc.names.lookup x == some NameKind.cell) then .cell else k) := fun x k hk => by
  show (relabel scope env).names.lookup x = _
  rw [relabel_names cx]
  exact lookup_relabel (p := fun n => sc.names.lookup n == some NameKind.cell) hk
 have hlen := D.frm.len
 have hlow : ∀ (i : Nat) (x : Str), i < sc.vars.length → (compSc sc scope).vars[i]? = some (some x) → sc.vars[i]? = some (some x) ∧ scope.names.lookup x = some .free ∧ sc.names.lookup x = some .cell := fun i x hi hx => by
  unfold compSc at hx
  dsimp only at hx
  rw [List.getElem?_append_left (by simpa using hi), List.getElem?_map] at hx
  cases hq : sc.vars[i]? with
  | none => rw [hq] at hx; cases hx
  | some o =>
   rw [hq] at hx
   cases o with
   | none => simp at hx
   | some y =>
    simp only [Option.map_some, Option.some.injEq] at hx
    split at hx
    ·rename_i hc
     cases hx
     simp only [Bool.and_eq_true, beq_iff_eq] at hc
     exact ⟨rfl, hc.1, hc.2⟩
    ·cases hx
 have hhigh : ∀ (i : Nat) (x : Str), sc.vars.length ≤ i → (compSc sc scope).vars[i]? = some (some x) → scope.names[i - sc.vars.length]? = some (x, .local) := fun i x hi hx => by
  unfold compSc at hx
  dsimp only at hx
  rw [List.getElem?_append_right (by simpa using hi), List.length_map, List.getElem?_map] at hx
  cases hq : scope.names[i - sc.vars.length]? with
  | none => rw [hq] at hx; cases hx
  | some o =>
   rw [hq] at hx
   obtain ⟨y, k⟩ := o
   simp only [Option.map_some, Option.some.injEq] at hx
   split at hx
   ·rename_i hc
    cases hx
    have : k = .local := by simpa using hc
    rw [this]
   ·cases hx
 refine ⟨⟨m, hn⟩, hΦ, hρ, fun x c hc => ?_, fun x y c h1 h2 => D.frm.inj x y c (hcl x c h1) (hcl y c h2), fun i x hx => ?_, fun i j x h1 h2 => ?_, ?_⟩
 ·obtain ⟨a1, a2, a3, a4⟩ := D.frm.cell x c (hcl x c hc)
  exact ⟨a1, a2, a3, fun q => hne x (by rw [hcl x c hc]; exact congrArg some q)⟩
 ·by_cases hi : i < sc.vars.length
  ·obtain ⟨h1, h2, h3⟩ := hlow i x hi hx
   obtain ⟨ov, hh, hr⟩ := D.frm.val i x h1
   refine ⟨ov, ?_, fun v hv => hr v ?_⟩
   ·rcases hh with ⟨hk, _⟩ | ⟨_, c, hc, q⟩
    ·unfold Env.kindOf at hk; rw [cx.names, h3] at hk; cases hk
    ·obtain ⟨c', hc'⟩ := hcf (x, .free) (mem_of_lookup h2) rfl
     have := hcl _ _ hc'
     rw [hc] at this; cases this
     exact .cel (by rw [hkind x _ h2, h3]; rfl) c hc' q
   ·rwa [List.getElem?_append_left (by lia)] at hv
  ·have h1 := hhigh i x (by lia) hx
   have h2 := nodup_lookup S.nodup (List.mem_of_getElem? h1)
   refine ⟨m x, .loc (by rw [hkind x _ h2]; rfl) m hn rfl, fun v hv => ?_⟩
   ·rw [List.getElem?_append_right (by lia), List.getElem?_replicate] at hv
    split at hv <;> cases hv
 ·by_cases hi : i < sc.vars.length
  ·obtain ⟨a1, a2, a3⟩ := hlow i x hi h1
   by_cases hj : j < sc.vars.length
   ·obtain ⟨b1, _, _⟩ := hlow j x hj h2
    exact D.frm.nodup i j x a1 b1
   ·have := nodup_lookup S.nodup (List.mem_of_getElem? (hhigh j x (by lia) h2))
    rw [a2] at this; cases this
  ·have a1 := hhigh i x (by lia) h1
   by_cases hj : j < sc.vars.length
   ·obtain ⟨_, b2, _⟩ := hlow j x hj h2
    have := nodup_lookup S.nodup (List.mem_of_getElem? a1)
    rw [b2] at this; cases this
   ·have b1 := hhigh j x (by lia) h2
    have := nodup_index S.nodup a1 b1
    lia
 ·unfold compSc
  simp [hlen]
theorem cov_comp (cx : Cx W n A e0 outer L env sc) {scope : Scope} {cl : List (Str × Addr)} {Cc : Addr} (i : Nat) (h : compLoc (compSc sc scope) i = true) : Cov (compSc sc scope) (compEnvC scope cl Cc env) (· = Cc) i := by
 intro x hx
 unfold compLoc at h
 rw [hx] at h
 have hk : (compEnvC scope cl Cc env).kindOf x = some .local := by
  show (relabel scope env).names.lookup x = _
  rw [relabel_names cx]; simpa using h
 exact ⟨fun _ => rfl, fun c hc => by rw [hk] at hc; cases hc⟩
noncomputable def OkIfs (W : Wd) (n : Nat) (C : CallT) (sc : Sc) (xs : List E) (es : List Expr) : Prop :=
 ∀ {A : Around} {e0 : Env} {outer : List Env} {L : Addr} {env : Env} {s : Shared} {Φ : Fz} {ρ : List Addr} {σ : Store} {fr : Frame}, Cx W n A e0 outer L env sc → Dy W Φ ρ σ (e0 :: outer) env sc.vars fr s.heap →
  Sim W A (e0 :: outer) L ρ (forIn es true fun c r => if r = true then do let ok ← isTrue c env (eval c env); pure (ForInStep.yield ok) else pure (ForInStep.yield r)) Φ s ((evAnd W.G C xs fr σ).bind fun v σ => Res.of σ (asBool v)) BRel
theorem ifs_nil : OkIfs W n C sc [] [] := by
 intro A e0 outer L env s Φ ρ σ fr cx D
 exact SimP.ok (σ := σ) fun Q E hQ => wpAny_pure (hQ _ Φ s.heap s.toks D.inv (.refl ..) rfl)
theorem forIn_false (env : Env) : ∀ es : List Expr, (forIn es false fun c r => if r = true then do let ok ← isTrue c env (eval c env); pure (ForInStep.yield ok) else pure (ForInStep.yield r) : Sem Bool) = pure false
 | [] => by rw [List.forIn_nil]
 | e :: es => by
  rw [List.forIn_cons]
  simp only [Bool.false_eq_true, if_false, pure_bind]
  exact forIn_false env es
theorem ifs_cons {x : E} {xs : List E} {e : Expr} {es : List Expr} (h : OkT W n C sc x e) (hr : OkIfs W n C sc xs es) : OkIfs W n C sc (x :: xs) (e :: es) := by
 intro A e0 outer L env s Φ ρ σ fr cx D
 have q : (evAnd W.G C (x :: xs) fr σ).bind (fun v σ => Res.of σ (asBool v)) = (evB W.G C x fr σ).bind fun b σ => if b then (evAnd W.G C xs fr σ).bind (fun v σ => Res.of σ (asBool v)) else .ok false σ := by
  (first | rw [Z99] | rw [Z100]); unfold evB
  cases evE W.G C x fr σ with
  | ok v σ₁ =>
   simp only [Res.bind_ok]
   cases asBool v with
   | none => rfl
   | some b => cases b <;> rfl
  | err => rfl
  | stuck => rfl
 rw [q]
 refine SimP.of (P' := fun Q E s => wpAny (model W.prog W.w) A (isTrue e env (eval e env)) (fun b s₁ => wpAny (model W.prog W.w) A (forIn es b fun c r => if r = true then do let ok ← isTrue c env (eval c env); pure (ForInStep.yield ok) else pure (ForInStep.yield r)) Q E s₁) E s) (fun Q E h => ?_) ?_
 ·rw [List.forIn_cons]
  simp only [if_true]
  exact wpAny_bind (wpAny_bind (wpAny_mono h (fun b s₁ h₁ => wpAny_pure h₁) fun _ _ x => x))
 ·refine SimP.seq (h cx D) fun b b' σ' Φ' h' k e' I S r => ?_
  cases r
  cases b
  ·refine SimP.of (P' := fun Q E s => Q false s) (fun Q E h => ?_) (SimP.ok fun Q E hQ => hQ _ Φ' h' k I (.refl ..) rfl)
   rw [forIn_false]; exact wpAny_pure h
  ·exact hr cx (D.step S I)
end
end Holk
namespace Holk
open PySem PyProof.Rows
section
variable {W : Wd} {n : Nat} {C : CallT} {A : Around} {e0 : Env} {outer : List Env} {L : Addr} {env : Env} {sc : Sc} {s : Shared} {Φ : Fz} {ρ : List Addr} {σ : Store} {fr : Frame}
theorem Dy.kp {vars : List (Option Str)} {h h' : Heap} {X : Addr → Prop} (D : Dy W Φ ρ σ (e0 :: outer) env vars fr h) (k : Kp X (frs (e0 :: outer)) h h')
  (hX : ∀ a, X a → a ≠ env.locals ∧ (∀ x, env.cells.lookup x ≠ some a) ∧ a ∉ ρ ∧ a ∉ frs (e0 :: outer) ∧ Φ a = none) : Dy W Φ ρ σ (e0 :: outer) env vars fr h' := by
 refine ⟨⟨D.inv.base, fun a o e => ?_, D.inv.len, fun i a c p q => ?_, D.inv.nodup, D.inv.apart⟩, D.stk.kp k (fun a ha hx => (hX a hx).2.2.2.1 ha) fun _ _ _ => rfl, ?_⟩
 ·refine k.keep a o (fun q => ?_) (fun q => ?_) (D.inv.frz a o e)
  ·rw [(hX a q).2.2.2.2] at e; cases e
  ·rw [(D.stk.mem q).1] at e; cases e
 ·have ha : a ∈ ρ := List.mem_of_getElem? p
  exact (D.inv.cell i a c p q).mono (fun _ _ q => q) (fun o q => k.keep a o (fun x => (hX a x).2.2.1 ha) (fun x => (D.stk.mem x).2.1 ha) q)
 ·refine D.frm.kp (fun _ _ q => q) (fun _ _ _ => rfl) fun a ha o e => k.slots a o (fun q => ?_) e
  rcases ha with rfl | ⟨x, hx⟩
  ·exact (hX _ q).1 rfl
  ·exact (hX _ q).2.1 x hx
theorem Kp.other {Y : Addr → Prop} {fs : List Addr} {hs h h' : Heap} {X : Addr → Prop} (S : Kp Y fs hs h) (k : Kp X fs h h') (hX : ∀ a, X a → hs.get? a = none) : Kp Y fs hs h' := by
 have ne : ∀ a o, hs.get? a = some o → ¬ X a := fun a o e q => by rw [hX a q] at e; cases e
 exact ⟨fun a o e => let ⟨o', e'⟩ := S.alive a o e; k.alive a o' e', fun a o hy hf e => k.keep a o (ne a o e) hf (S.keep a o hy hf e), fun a o hy e => let ⟨_, e'⟩ := S.slots a o hy e; let ⟨sl, e''⟩ := k.slots a _ (ne a o e) e'; ⟨sl, e''⟩⟩
theorem Step.other {fs : List Addr} {Φs : Fz} {hs h h' : Heap} {X : Addr → Prop} (S : Step ρ fs Φs hs Φ h) (k : Kp X fs h h') (hX : ∀ a, X a → hs.get? a = none) : Step ρ fs Φs hs Φ h' :=
 ⟨S.ext, S.fresh, S.kp.other k hX⟩
structure LS (W : Wd) (Φs : Fz) (hs : Heap) (ρ : List Addr) (σ : Store) (l : List Env) (env : Env) (vars : List (Option Str)) (fr : Frame) (it Dd Cc : Addr) (Φ : Fz) (h : Heap) (vs : List Value) (acc : List PyData) : Prop where
 dy : Dy W Φ ρ σ l env vars fr h
 st : Step ρ (frs l) Φs hs Φ h
 fit : Φ it = none
 fdd : Φ Dd = none
 fcc : Φ Cc = none
 cns : ∃ m, h.Ns Cc m
 acc : ∃ ds m, h.get? Dd = some (lstO ds m) ∧ RDs Φ ds acc
 ita : ItAt Φ h it vs
structure New3 (hs : Heap) (it Dd Cc : Addr) : Prop where
 nit : hs.get? it = none
 ndd : hs.get? Dd = none
 ncc : hs.get? Cc = none
 n1 : it ≠ Dd
 n2 : it ≠ Cc
 n3 : Dd ≠ Cc
theorem Dy.apart {vars : List (Option Str)} {hs : Heap} {Φs : Fz} {σs : Store} (D₀ : Dy W Φs ρ σs (e0 :: outer) env vars fr hs) {T : Addr} (hT : hs.get? T = none) (hΦ : Φ T = none) :
  T ≠ env.locals ∧ (∀ x, env.cells.lookup x ≠ some T) ∧ T ∉ ρ ∧ T ∉ frs (e0 :: outer) ∧ Φ T = none :=
 let ⟨a, b, c, d⟩ := Dy.alive (sc := ⟨[], vars⟩) D₀ hT
 ⟨a, b, c, d, hΦ⟩
theorem Kp.one {fs : List Addr} {T : Addr} {h h' : Heap} (k : ∀ a o, a ≠ T → h.get? a = some o → h'.get? a = some o) (hl : (∃ o, h.get? T = some o) → ∃ o, h'.get? T = some o) : Kp (· = T) fs h h' := by
 refine ⟨fun a o e => ?_, fun a o hx _ e => k a o hx e, fun a o hx e => ⟨o.slots, k a o hx e⟩⟩
 by_cases q : a = T
 ·subst q; exact hl ⟨o, e⟩
 ·exact ⟨o, k a o q e⟩
theorem LS.kpC {vars : List (Option Str)} {Φs : Fz} {hs h h' : Heap} {σs : Store} {it Dd Cc : Addr} {vs : List Value} {acc : List PyData} (D₀ : Dy W Φs ρ σs (e0 :: outer) env vars fr hs) (N : New3 hs it Dd Cc)
  (S : LS W Φs hs ρ σ (e0 :: outer) env vars fr it Dd Cc Φ h vs acc) (k : Kp (· = Cc) (frs (e0 :: outer)) h h') (hn : ∃ m, h'.Ns Cc m) : LS W Φs hs ρ σ (e0 :: outer) env vars fr it Dd Cc Φ h' vs acc := by
 have hi := D₀.apart N.nit S.fit
 have hd := D₀.apart N.ndd S.fdd
 have hc := D₀.apart N.ncc S.fcc
 obtain ⟨ds, m, e, r⟩ := S.acc
 have D' := S.dy.kp k (by rintro a rfl; exact hc)
 exact ⟨D', S.st.other k (by rintro a rfl; exact N.ncc), S.fit, S.fdd, S.fcc, hn, ⟨ds, m, k.keep _ _ N.n3 hd.2.2.2.1 e, r⟩, S.ita.keep (fun _ _ q => q) D'.inv.frz fun o q => k.keep _ _ N.n2 hi.2.2.2.1 q⟩
theorem LS.step {vars : List (Option Str)} {Φs Φ' : Fz} {hs h h' : Heap} {σs σ' : Store} {it Dd Cc : Addr} {vs : List Value} {acc : List PyData} (D₀ : Dy W Φs ρ σs (e0 :: outer) env vars fr hs) (N : New3 hs it Dd Cc)
  (S : LS W Φs hs ρ σ (e0 :: outer) env vars fr it Dd Cc Φ h vs acc) (k : Step ρ (frs (e0 :: outer)) Φ h Φ' h') (I : Inv W Φ' ρ σ' h') : LS W Φs hs ρ σ' (e0 :: outer) env vars fr it Dd Cc Φ' h' vs acc := by
 have hi := D₀.apart N.nit S.fit
 have hd := D₀.apart N.ndd S.fdd
 have hc := D₀.apart N.ncc S.fcc
 obtain ⟨ds, m, e, r⟩ := S.acc
 obtain ⟨mc, hm⟩ := S.cns
 have hit : ∃ o, h.get? it = some o := by cases S.ita with | list _ _ h3 => obtain ⟨o, e, _⟩ := h3; exact ⟨o, e⟩ | tuple _ _ h3 => obtain ⟨o, e, _⟩ := h3; exact ⟨o, e⟩
 obtain ⟨oi, hoi⟩ := hit
 have hm' := hm
 obtain ⟨oc, _, _, hoc, _⟩ := hm'
 exact ⟨S.dy.step k I, S.st.trans k, (k.fresh _ _ hoi).trans S.fit, (k.fresh _ _ e).trans S.fdd, (k.fresh _ _ hoc).trans S.fcc, ⟨mc, ns_slots hm fun o q => k.kp.slots _ _ hc.2.2.1 q⟩, ⟨ds, m, k.kp.keep _ _ hd.2.2.1 hd.2.2.2.1 e, r.mono k.ext⟩, S.ita.keep k.ext I.frz fun o q => k.kp.keep _ _ hi.2.2.1 hi.2.2.2.1 q⟩
theorem LS.next {vars : List (Option Str)} {Φs : Fz} {hs h h' : Heap} {σs : Store} {it Dd Cc : Addr} {vs vs' : List Value} {acc : List PyData} (D₀ : Dy W Φs ρ σs (e0 :: outer) env vars fr hs) (N : New3 hs it Dd Cc)
  (S : LS W Φs hs ρ σ (e0 :: outer) env vars fr it Dd Cc Φ h vs acc) (k : Kp (· = it) (frs (e0 :: outer)) h h') (hi' : ItAt Φ h' it vs') : LS W Φs hs ρ σ (e0 :: outer) env vars fr it Dd Cc Φ h' vs' acc := by
 have hi := D₀.apart N.nit S.fit
 have hd := D₀.apart N.ndd S.fdd
 obtain ⟨ds, m, e, r⟩ := S.acc
 obtain ⟨mc, hm⟩ := S.cns
 exact ⟨S.dy.kp k (by rintro a rfl; exact hi), S.st.other k (by rintro a rfl; exact N.nit), S.fit, S.fdd, S.fcc, ⟨mc, ns_slots hm fun o q => k.slots _ _ (Ne.symm N.n2) q⟩, ⟨ds, m, k.keep _ _ (Ne.symm N.n1) hd.2.2.2.1 e, r⟩, hi'⟩
theorem LS.push {vars : List (Option Str)} {Φs : Fz} {hs h h' : Heap} {σs : Store} {it Dd Cc : Addr} {vs : List Value} {acc acc' : List PyData} (D₀ : Dy W Φs ρ σs (e0 :: outer) env vars fr hs) (N : New3 hs it Dd Cc)
  (S : LS W Φs hs ρ σ (e0 :: outer) env vars fr it Dd Cc Φ h vs acc) (k : Kp (· = Dd) (frs (e0 :: outer)) h h') (ha : ∃ ds m, h'.get? Dd = some (lstO ds m) ∧ RDs Φ ds acc') : LS W Φs hs ρ σ (e0 :: outer) env vars fr it Dd Cc Φ h' vs acc' := by
 have hi := D₀.apart N.nit S.fit
 have hd := D₀.apart N.ndd S.fdd
 obtain ⟨mc, hm⟩ := S.cns
 have D' := S.dy.kp k (by rintro a rfl; exact hd)
 exact ⟨D', S.st.other k (by rintro a rfl; exact N.ndd), S.fit, S.fdd, S.fcc, ⟨mc, ns_slots hm fun o q => k.slots _ _ (Ne.symm N.n3) q⟩, ha, S.ita.keep (fun _ _ q => q) D'.inv.frz fun o q => k.keep _ _ N.n1 hi.2.2.2.1 q⟩
noncomputable def ORel (Φ : Fz) : Option Value → Option PyData → Prop
 | some v, some x => RD Φ v x
 | none, none => True
 | _, _ => False
noncomputable def tailE (G : List PyData) (C : CallT) (ifs : List E) (elt : E) (fr' : Frame) (σ : Store) : Res (Option PyData) :=
 (evAnd G C ifs fr' σ).bind fun b σ => (Res.of σ (asBool b)).bind fun b σ =>
      if b then (evE G C elt fr' σ).bind fun r σ => match r with
       | .d z => .ok (some z) σ
       | .loc _ => .stuck
      else .ok none σ
theorem tail_ok {ifs : List E} {elt : E} {ies : List Expr} {ee : Expr} (hi : OkIfs W n C sc ifs ies) (he : OkE W n C sc elt ee) (cx : Cx W n A e0 outer L env sc) (D : Dy W Φ ρ σ (e0 :: outer) env sc.vars fr s.heap) :
  SimP W (e0 :: outer) L ρ (fun Q E s => wpAny (model W.prog W.w) A (forIn ies true fun c r => if r = true then do let ok ← isTrue c env (eval c env); pure (ForInStep.yield ok) else pure (ForInStep.yield r))
   (fun ok s₃ => if ok = true then wpAny (model W.prog W.w) A (eval ee env) (fun x s₄ => Q (some x) s₄) E s₃ else Q none s₃) E s) Φ s (tailE W.G C ifs elt fr σ) ORel := by
 have q : tailE W.G C ifs elt fr σ = ((evAnd W.G C ifs fr σ).bind fun v σ => Res.of σ (asBool v)).bind fun b σ =>
   if b then (evE W.G C elt fr σ).bind fun r σ => match r with
       | .d z => .ok (some z) σ
       | .loc _ => .stuck
      else .ok none σ := by
  unfold tailE
  cases evAnd W.G C ifs fr σ with
  | ok v σ₁ => rfl
  | err => rfl
  | stuck => rfl
 rw [q]
 refine SimP.seq (P2 := fun ok Q E s₃ => if ok = true then wpAny (model W.prog W.w) A (eval ee env) (fun x s₄ => Q (some x) s₄) E s₃ else Q none s₃) (hi cx D) fun b b' σ' Φ' h' k e' I S r => ?_
 cases r
 cases b
 ·exact SimP.of (P' := fun Q E s => Q none s) (fun Q E h => h) (SimP.ok fun Q E hQ => hQ _ Φ' h' k I (.refl ..) trivial)
 ·refine SimP.of (P' := fun Q E s₃ => wpAny (model W.prog W.w) A (eval ee env) (fun x s₄ => Q (some x) s₄) E s₃) (fun Q E h => h) ?_
  refine SimP.seq (P2 := fun x Q E s₄ => Q (some x) s₄) (he cx (D.step S I)) fun v x σ₂ Φ₂ h₂ k₂ e₂ I₂ S₂ r₂ => ?_
  cases x with
  | loc => exact .stuck
  | d z => exact SimP.ok fun Q E hQ => hQ _ Φ₂ h₂ k₂ I₂ (.refl ..) r₂
end
end Holk
namespace Holk
open PySem PyProof.Rows
section
variable {W : Wd} {n : Nat} {C : CallT} {A : Around} {e0 : Env} {outer : List Env} {L : Addr} {env : Env} {sc : Sc} {s : Shared} {Φ : Fz} {ρ : List Addr} {σ : Store} {fr : Frame}
theorem exists_push {ds : List Value} {v : Value} {h : Heap} {a : Addr} (x : h.PlainList a (ds.toArray.push v)) : ∃ m, h.get? a = some (lstO (ds ++ [v]) m) := by
 obtain ⟨m, e⟩ := x
 exact ⟨m, by rw [e]; unfold lstO; simp⟩
noncomputable def compF (G : List PyData) (C : CallT) (t : Tg) (ifs : List E) (elt : E) (fr0 : Frame) (y : PyData) (σ : Store) : Res (Option PyData) :=
 (Res.of σ (asg σ t (.d y) fr0)).bind fun fr' σ => tailE G C ifs elt fr' σ
theorem comp_loop {scope : Scope} {cl : List (Str × Addr)} {it Dd Cc : Addr} {Φs : Fz} {hs : Heap} {σs : Store} {ifs : List E} {elt : E} {t : Tg} {ies : List Expr} {ee te ie : Expr} {pos : Pos} {R : Result → Shared → Prop}
  (cx : Cx W n A e0 outer L env sc) (hsc : ScopeOk sc scope) (hcl : ∀ x c, cl.lookup x = some c → env.cells.lookup x = some c) (hcf : ∀ x ∈ scope.names, x.2 = .free → ∃ c, cl.lookup x.1 = some c)
  (hi : OkIfs W n C (compSc sc scope) ifs ies) (he : OkE W n C (compSc sc scope) elt ee) (ht : ckT (compSc sc scope) t te = true) (htl : tgAll (compLoc (compSc sc scope)) t = true)
  (D₀ : Dy W Φs ρ σs (e0 :: outer) env sc.vars fr hs) (N : New3 hs it Dd Cc) :
  ∀ (items : List PyData) {s : Shared} {Φ : Fz} {σ : Store} {vs : List Value} {acc : List PyData}, RDs Φ vs items → LS W Φs hs ρ σ (e0 :: outer) env sc.vars fr it Dd Cc Φ s.heap vs acc → acc.length + items.length ≤ lim →
   compItems (compF W.G C t ifs elt (fr ++ List.replicate scope.names.length none)) items σ ≠ .stuck →
   (∀ ys σ' Φ' h' k, compItems (compF W.G C t ifs elt (fr ++ List.replicate scope.names.length none)) items σ = .ok ys σ' → Dy W Φ' ρ σ' (e0 :: outer) env sc.vars fr h' → Step ρ (frs (e0 :: outer)) Φs hs Φ' h' → Φ' Cc = none → Φ' Dd = none → (∃ m, h'.Ns Cc m) → (∃ ds m, h'.get? Dd = some (lstO ds m) ∧ RDs Φ' ds (acc ++ ys)) → R (.ok .next) { s with heap := h', toks := k }) →
   (∀ e σ' Φ' h' k, compItems (compF W.G C t ifs elt (fr ++ List.replicate scope.names.length none)) items σ = .err σ' → Dy W Φ' ρ σ' (e0 :: outer) env sc.vars fr h' → Step ρ (frs (e0 :: outer)) Φs hs Φ' h' → Φ' Cc = none → (∃ m, h'.Ns Cc m) → Thrown Φ' ρ L hs h' e true → R (.error (.ref e)) { s with heap := h', toks := k }) →
   codeAny (model W.prog W.w) A (.compLoop (.ListComp ee [⟨te, ie, ies, 0⟩] scope pos) 0 (.ref it) (.ref Dd) (compEnvC scope cl Cc env)) R s := by
 have cx' := comp_cx cx hsc cl Cc
 have N' := N
 intro items
 induction items with
 | nil =>
  intro s Φ σ vs acc rv S hlen hns hok herr
  cases rv
  refine codeAny_of_tree ?_
  show wpAny _ A ((compTurn (.ListComp ee [⟨te, ie, ies, 0⟩] scope pos) 0 (.ref it) (.ref Dd) (compEnvC scope cl Cc env)).onRaise (fun x => do noteFrame x (compEnvC scope cl Cc env); theTreesLotGoes x)) _ _ s
  refine wpAny_noted ?_
  rw [compTurn_list]
  refine wpAny_bind (wpAny_standAt (wpAny_bind (it_end cx.handled S.ita fun h' hx => ?_)))
  refine wpAny_pure ?_
  have hi := D₀.apart N.nit S.fit
  have hd := D₀.apart N.ndd S.fdd
  have k : Kp (fun a => a = it ∧ s.heap.get? a ≠ none ∨ False) (frs (e0 :: outer)) s.heap s.heap := .refl ..
  obtain ⟨ds, m, e, r⟩ := S.acc
  obtain ⟨mc, hm⟩ := S.cns
  have D' : Dy W Φ ρ σ (e0 :: outer) env sc.vars fr h' := S.dy.other ⟨hi.1, hi.2.1, hi.2.2.1, hi.2.2.2.1⟩ S.fit fun a o hne q => hx a o hne q
  have St : Step ρ (frs (e0 :: outer)) Φs hs Φ h' := by
   have old : ∀ a o, hs.get? a = some o → a ≠ it := fun a o e q => by rw [q, N.nit] at e; cases e
   refine ⟨S.st.ext, S.st.fresh, ⟨fun a o e => ?_, fun a o h1 h2 e => hx a o (old a o e) (S.st.kp.keep a o h1 h2 e), fun a o h1 e => ?_⟩⟩
   ·obtain ⟨o', e'⟩ := S.st.kp.alive a o e; exact ⟨o', hx a o' (old a o e) e'⟩
   ·obtain ⟨sl, e'⟩ := S.st.kp.slots a o h1 e; exact ⟨sl, hx a _ (old a o e) e'⟩
  have := hok [] σ Φ h' s.toks (by (first | rw [Z79] | rw [Z80])) D' St S.fcc S.fdd ⟨mc, hm.at' fun o q => hx _ o (Ne.symm N.n2) q⟩ ⟨ds, m, hx _ _ (Ne.symm N.n1) e, by simpa using r⟩
  exact this
 | cons x xs ih =>
  intro s Φ σ vs acc rv S hlen hns hok herr
  cases rv with
  | cons r1 r2 =>
  rename_i v vs
  refine codeAny_of_tree ?_
  show wpAny _ A ((compTurn (.ListComp ee [⟨te, ie, ies, 0⟩] scope pos) 0 (.ref it) (.ref Dd) (compEnvC scope cl Cc env)).onRaise (fun x => do noteFrame x (compEnvC scope cl Cc env); theTreesLotGoes x)) _ _ s
  refine wpAny_noted ?_
  rw [compTurn_list]
  refine wpAny_bind (wpAny_standAt (wpAny_bind (it_next S.ita S.fit fun h₁ hi₁ hs₁ hl₁ => ?_)))
  have S₁ := S.next D₀ N (Kp.one (fun a o hne q => (hs₁.2 a hne).trans q) fun _ => hl₁) hi₁
  refine wpAny_bind (it_go (s := { s with heap := h₁ }) hi₁ ?_)
  (first | rw [Z79] at hns hok herr | rw [Z80] at hns hok herr)
  unfold compF at hns hok herr
  cases ha : asg σ t (.d x) (fr ++ List.replicate scope.names.length none) with
  | none => rw [ha] at hns; exact absurd rfl hns
  | some fr' =>
   rw [ha] at hns hok herr
   simp only [Res.of_some, Res.bind_ok] at hns hok herr
   obtain ⟨mc, hmc⟩ := S₁.cns
   have hcc := D₀.apart N.ncc S₁.fcc
   have Dc : Dy W Φ ρ σ (e0 :: outer) (compEnvC scope cl Cc env) (compSc sc scope).vars (fr ++ List.replicate scope.names.length none) h₁ :=
    ⟨S₁.dy.inv, S₁.dy.stk, comp_frame cx S₁.dy hsc hcl hcf hmc S₁.fcc hcc.2.2.1 hcc.2.1⟩
   refine wpAny_bind (asg_ok t te ht (s := { s with heap := h₁ }) (compLoc (compSc sc scope)) cx' Dc htl (fun i hi => cov_comp cx i hi) (v := .d x) r1 ha fun h₂ k₂ D₂ K₂ => ?_)
   have S₂ := S₁.kpC D₀ N K₂ (let ⟨m, hm⟩ := D₂.frm.ns; ⟨m, hm⟩)
   refine wpAny_bind ?_
   have T := tail_ok (s := { s with heap := h₂, toks := k₂ }) hi he cx' D₂
   refine wpAny_mono (T (fun ov s₄ => match ov with
     | some y => wpAny (model W.prog W.w) A (call (.builtin "list.append") [.ref Dd, y]) (fun _ s₅ => codeAny (model W.prog W.w) A (.compLoop (.ListComp ee [⟨te, ie, ies, 0⟩] scope pos) 0 (.ref it) (.ref Dd) (compEnvC scope cl Cc env)) R s₅) (notedBy (model W.prog W.w) A (compEnvC scope cl Cc env) fun e s' => R (.error e) s') s₄
     | none => codeAny (model W.prog W.w) A (.compLoop (.ListComp ee [⟨te, ie, ies, 0⟩] scope pos) 0 (.ref it) (.ref Dd) (compEnvC scope cl Cc env)) R s₄) (notedBy (model W.prog W.w) A (compEnvC scope cl Cc env) fun e s' => R (.error e) s') ?_ ?_ ?_) (fun ok s₃ h₃ => ?_) fun _ _ h' => h'
   ·intro q; rw [q] at hns; exact hns rfl
   ·intro ov o σ' Φ' h' k e' I' St' r'
    rw [e'] at hns hok herr
    simp only [Res.bind_ok] at hns hok herr
    have S₃ := S₂.step D₀ N St' I'
    have r2' : RDs Φ' vs xs := r2.mono St'.ext
    have hns' : compItems (compF W.G C t ifs elt (fr ++ List.replicate scope.names.length none)) xs σ' ≠ .stuck := by intro q; unfold compF at q; rw [q] at hns; exact hns rfl
    cases ov with
    | none =>
     cases o with
     | some => exact r'.elim
     | none =>
      refine ih (s := { s with heap := h', toks := k }) r2' S₃ (by simp at hlen; lia) hns' (fun ys σ'' Φ'' h'' k'' e'' => hok ys σ'' Φ'' h'' k'' ?_) fun e σ'' Φ'' h'' k'' e'' => herr e σ'' Φ'' h'' k'' ?_
      ·unfold compF at e''; rw [e'']; rfl
      ·unfold compF at e''; rw [e'']; rfl
    | some y =>
     cases o with
     | none => exact r'.elim
     | some z =>
      obtain ⟨ds, m, ed, rd⟩ := S₃.acc
      have hdl := rd.length
      refine wpAny_list_append_plain (s := { s with heap := h', toks := k }) (items := ds.toArray) ⟨m, ed⟩ (fun h₅ hp₅ hs₅ => ?_) (by have := lim_le; simp at hlen; simp only [List.size_toArray]; lia)
      obtain ⟨m', em⟩ := exists_push hp₅
      have S₅ := S₃.push D₀ N (acc' := acc ++ [z]) (Kp.one (fun a o hne q => (hs₅.2 a hne).trans q) fun _ => ⟨_, em⟩) ⟨_, m', em, rd.append (.cons r' .nil)⟩
      refine ih (s := { s with heap := h₅, toks := k }) r2' S₅ (by simp at hlen ⊢; lia) hns' (fun ys σ'' Φ'' h'' k'' e'' D'' St'' c1 c2 c3 c4 => hok (z :: ys) σ'' Φ'' h'' k'' ?_ D'' St'' c1 c2 c3 (by simpa using c4)) fun e σ'' Φ'' h'' k'' e'' => herr e σ'' Φ'' h'' k'' ?_
      ·unfold compF at e''; rw [e'']; rfl
      ·unfold compF at e''; rw [e'']; rfl
   ·intro e σ' Φ' h' k e' I' St' T'
    rw [e'] at herr
    have S₃ := S₂.step D₀ N St' I'
    refine note_ok (s := { s with heap := h', toks := k }) (h := h₂) (X := (· ∈ ρ)) cx.frames cx.f0 cx'.f rfl S₃.dy.stk I' St'.kp T' fun h'' I'' K'' SO'' T'' => ?_
    have S₄ := S₂.step D₀ N (⟨St'.ext, St'.fresh, K''⟩ : Step ρ (frs (e0 :: outer)) Φ h₂ Φ' h'') I''
    exact herr e σ' Φ' h'' k rfl S₄.dy S₄.st S₄.fcc S₄.cns (T''.back S₂.st.kp.alive)
   ·cases ok with
    | false => exact wpAny_pure ⟨rfl, h₃⟩
    | true => exact wpAny_bind (wpAny_bind (wpAny_mono h₃ (fun x s₄ h₄ => wpAny_bind (wpAny_mono h₄ (fun _ s₅ h₅ => wpAny_pure (wpAny_pure ⟨rfl, h₅⟩)) fun _ _ h' => h')) fun _ _ h' => h'))
end
end Holk
namespace Holk
open PySem PyProof.Rows
section
variable {W : Wd} {n : Nat} {C : CallT} {A : Around} {e0 : Env} {outer : List Env} {L : Addr} {env : Env} {sc : Sc} {s : Shared} {Φ : Fz} {ρ : List Addr} {σ : Store} {fr : Frame}
theorem get_fresh {h : Heap} {a : Addr} (ha : h.objs.size ≤ a) : h.get? a = none := by
 cases e : h.get? a with
 | none => rfl
 | some o' => exact absurd (Heap.lt_size e) (Nat.not_lt.mpr ha)
theorem comp_run {scope : Scope} {cl : List (Str × Addr)} {ifs : List E} {elt : E} {t : Tg} {ies : List Expr} {ee te ie : Expr} {pos : Pos} {RR : Value → Addr → Result → Shared → Prop} {E : Value → Shared → Prop}
  (cx : Cx W n A e0 outer L env sc) (hsc : ScopeOk sc scope) (hcl : ∀ x c, cl.lookup x = some c → env.cells.lookup x = some c) (hcf : ∀ x ∈ scope.names, x.2 = .free → ∃ c, cl.lookup x.1 = some c)
  (hi : OkIfs W n C (compSc sc scope) ifs ies) (he : OkE W n C (compSc sc scope) elt ee) (ht : ckT (compSc sc scope) t te = true) (htl : tgAll (compLoc (compSc sc scope)) t = true)
  (D : Dy W Φ ρ σ (e0 :: outer) env sc.vars fr s.heap) {u : Value} {x : PyData} {items : List PyData} (hu : RD Φ u x) (hx : itemsOf x = some items) (hlen : items.length ≤ lim)
  (hns : compItems (compF W.G C t ifs elt (fr ++ List.replicate scope.names.length none)) items σ ≠ .stuck)
  (hok : ∀ Dd Cc ys σ' Φ' h' k, compItems (compF W.G C t ifs elt (fr ++ List.replicate scope.names.length none)) items σ = .ok ys σ' → s.heap.get? Dd = none → s.heap.get? Cc = none → Dd ≠ Cc → Dy W Φ' ρ σ' (e0 :: outer) env sc.vars fr h' → Step ρ (frs (e0 :: outer)) Φ s.heap Φ' h' → Φ' Cc = none → Φ' Dd = none → (∃ m, h'.Ns Cc m) → (∃ ds m, h'.get? Dd = some (lstO ds m) ∧ RDs Φ' ds ys) → RR (.ref Dd) Cc (.ok .next) { s with heap := h', toks := k })
  (herr : ∀ Dd Cc e σ' Φ' h' k, compItems (compF W.G C t ifs elt (fr ++ List.replicate scope.names.length none)) items σ = .err σ' → s.heap.get? Cc = none → Dy W Φ' ρ σ' (e0 :: outer) env sc.vars fr h' → Step ρ (frs (e0 :: outer)) Φ s.heap Φ' h' → Φ' Cc = none → (∃ m, h'.Ns Cc m) → Thrown Φ' ρ L s.heap h' e true → RR (.ref Dd) Cc (.error (.ref e)) { s with heap := h', toks := k }) :
  wpAny (model W.prog W.w) A (pyIter u) (fun it s₂ => wpAny (model W.prog W.w) A (newList []) (fun acc s₃ =>
   wpAny (model W.prog W.w) A (newFunctionEnv scope env.globals cl [] env.qual none .none (some env)) (fun cenv s₄ =>
    codeAny (model W.prog W.w) A (.compStart (.ListComp ee [⟨te, ie, ies, 0⟩] scope pos) 0 it acc { cenv with scope := relabel scope env }) (RR acc cenv.locals) s₄) E s₃) E s₂) E s := by
 refine it_start D.inv hu hx fun oi vs hvs hfr hit => ?_
 refine wpAny_newObj_type (wpAny_newFunctionEnv hsc.nocell (by intro y hy; simp at hy) (fun h₁ hns₁ hsb₁ => ?_) hsc.kind)
 dsimp only at hns₁ hsb₁ hit ⊢
 generalize hH1 : s.heap.push oi = H1 at hns₁ hsb₁ hit ⊢
 generalize hH2 : H1.push { cls := .type "list", dict := none, data := .seq ([] : List Value).toArray } = H2 at hns₁ hsb₁ ⊢
 have hs1 : H1.objs.size = s.heap.objs.size + 1 := by rw [← hH1, Heap.size_push]
 have hs2 : H2.objs.size = s.heap.objs.size + 2 := by rw [← hH2, Heap.size_push, hs1]
 have k1 : ∀ a o, s.heap.get? a = some o → H1.get? a = some o := fun a o e => hH1 ▸ Heap.get?_push_of_some _ e
 have k2 : ∀ a o, H1.get? a = some o → H2.get? a = some o := fun a o e => hH2 ▸ Heap.get?_push_of_some _ e
 have k3 : ∀ a o, H2.get? a = some o → h₁.get? a = some o := fun a o e => hsb₁.extBut a o (Nat.ne_of_lt (Heap.lt_size e)) (Heap.get?_push_of_some _ e)
 have kk : ∀ a o, s.heap.get? a = some o → h₁.get? a = some o := fun a o e => k3 a o (k2 a o (k1 a o e))
 have N : New3 s.heap s.heap.objs.size H1.objs.size H2.objs.size := ⟨get_fresh (Nat.le_refl _), get_fresh (by rw [hs1]; lia), get_fresh (by rw [hs2]; lia), Nat.ne_of_lt (by rw [hs1]; lia), Nat.ne_of_lt (by rw [hs2]; lia), Nat.ne_of_lt (by rw [hs1, hs2]; lia)⟩
 have hdd : h₁.get? H1.objs.size = some (lstO [] 0) := k3 _ _ (by rw [← hH2]; exact Heap.get?_push_size _ rfl)
 have S : LS W Φ s.heap ρ σ (e0 :: outer) env sc.vars fr s.heap.objs.size H1.objs.size H2.objs.size Φ h₁ vs [] :=
  ⟨D.step (Step.of_ext kk) (D.inv.ext kk), Step.of_ext kk, D.inv.unfrozen N.nit, D.inv.unfrozen N.ndd, D.inv.unfrozen N.ncc, ⟨_, hns₁⟩, ⟨[], 0, hdd, .nil⟩, hit.keep (fun _ _ q => q) (D.inv.ext kk).frz fun o q => k3 _ _ (k2 _ _ q)⟩
 have loop : ∀ s₃ : Shared, s₃ = { s with heap := h₁, toks := s.toks + ([] : List (Str × Value)).length } →
   codeAny (model W.prog W.w) A (.compLoop (.ListComp ee [⟨te, ie, ies, 0⟩] scope pos) 0 (.ref s.heap.objs.size) (.ref H1.objs.size) (compEnvC scope cl H2.objs.size env)) (RR (.ref H1.objs.size) H2.objs.size) s₃ := by
  rintro s₃ rfl
  exact comp_loop cx hsc hcl hcf hi he ht htl D N items hvs S (by simpa using hlen) hns (fun ys σ' Φ' h' k e d st c1 c2 c3 c4 => hok _ _ ys σ' Φ' h' k e N.ndd N.ncc N.n3 d st c1 c2 c3 (by simpa using c4))
   fun e σ' Φ' h' k e' d st c1 c2 t => herr _ _ e σ' Φ' h' k e' N.ncc d st c1 c2 t
 exact codeAny_compStart_list (loop _ rfl) (it_self S.ita (loop _ rfl))
theorem Dy.freezeAt {vars : List (Option Str)} {hs h h' : Heap} {Φs : Fz} {σs : Store} {T Cc : Addr} {o : Obj} (D₀ : Dy W Φs ρ σs (e0 :: outer) env vars fr hs) (D : Dy W Φ ρ σ (e0 :: outer) env vars fr h) (S : Step ρ (frs (e0 :: outer)) Φs hs Φ h)
  (hT : hs.get? T = none) (hΦ : Φ T = none) (hC : hs.get? Cc = none) (hCΦ : Φ Cc = none) (hTC : T ≠ Cc) (ho : h.get? T = some o) (hsb : Heap.SameBut Cc h h') (hcl : ∃ m, h.Ns Cc m) :
  Inv W (Φ.add T o) ρ σ h' ∧ Step ρ (frs (e0 :: outer)) Φs hs (Φ.add T o) h' ∧ h'.get? T = some o := by
 have aT := D₀.apart hT hΦ
 have aC := D₀.apart hC hCΦ
 have ext : ∀ b o', Φ b = some o' → (Φ.add T o) b = some o' := fun b o' e => by
  have : b ≠ T := by rintro rfl; rw [hΦ] at e; cases e
  simp [Fz.add, this, e]
 have ho' : h'.get? T = some o := (hsb.2 T hTC).trans ho
 have keep : ∀ a o, a ≠ Cc → h.get? a = some o → h'.get? a = some o := fun a o hne e => (hsb.2 a hne).trans e
 refine ⟨⟨fun b o' e => ext b o' (D.inv.base b o' e), fun b o' e => ?_, D.inv.len, fun i b c h1 h2 => (D.inv.cell i b c h1 h2).mono ext (fun o q => keep b o ?_ q), D.inv.nodup, fun b hb => ?_⟩, ⟨fun b o' e => ext b o' (S.ext b o' e), fun b o' e => ?_, ?_⟩, ho'⟩
 ·by_cases q : b = T
  ·subst q; simp [Fz.add] at e; subst e; exact ho'
  ·simp [Fz.add, q] at e
   exact keep b o' (by rintro rfl; rw [hCΦ] at e; cases e) (D.inv.frz b o' e)
 ·rintro rfl; exact aC.2.2.1 (List.mem_of_getElem? h1)
 ·have : b ≠ T := by rintro rfl; exact aT.2.2.1 hb
  simp [Fz.add, this, D.inv.apart b hb]
 ·have : b ≠ T := by rintro rfl; rw [hT] at e; cases e
  simp [Fz.add, this, S.fresh b o' e]
 ·have ne : ∀ a o, hs.get? a = some o → a ≠ Cc := fun a o e q => by rw [q, hC] at e; cases e
  exact ⟨fun a o e => let ⟨o', e'⟩ := S.kp.alive a o e; ⟨o', keep a o' (ne a o e) e'⟩, fun a o h1 h2 e => keep a o (ne a o e) (S.kp.keep a o h1 h2 e), fun a o h1 e => let ⟨sl, e'⟩ := S.kp.slots a o h1 e; ⟨sl, keep a _ (ne a o e) e'⟩⟩
theorem Thrown.sameBut {h h' h'' : Heap} {e Cc : Addr} {c : Bool} (T : Thrown Φ ρ L h h' e c) (hs : Heap.SameBut Cc h' h'') (hn : ∃ m, h'.Ns Cc m) : Thrown Φ ρ L h h'' e c := by
 obtain ⟨m, o, es, ep, ho, hd, _⟩ := hn
 obtain ⟨a, b, d, oe, vs, h1, h2, h3, h4⟩ := T
 have ne : ∀ (x : Addr) (ox : Obj) (ws : Array Value), h'.get? x = some ox → ox.data = .fields ws → h''.get? x = some ox := fun x ox ws q1 q2 => by
  have : x ≠ Cc := by rintro rfl; rw [ho] at q1; cases q1; rw [hd] at q2; cases q2
  exact (hs.2 x this).trans q1
 refine ⟨a, b, d, oe, vs, ne _ _ _ h1 h3, h2, h3, ?_⟩
 cases h4 with
 | none q z => exact .none q z
 | some a b c d e f g k => exact .some a b c d e (ne _ _ _ f g) g k
theorem pass_ok {cenv : Env} {e : Addr} {h : Heap} {Q : Value → Shared → Prop} {E : Value → Shared → Prop} {l : List Env} (I : Inv W Φ ρ σ s.heap) (SO : StackOk l Φ ρ s.heap) (K : Kp (· ∈ ρ) (frs l) h s.heap) (T : Thrown Φ ρ L h s.heap e true)
  (hE : ∀ h'', Inv W Φ ρ σ h'' → Kp (· ∈ ρ) (frs l) h h'' → Thrown Φ ρ L h h'' e false → E (.ref e) { s with heap := h'' }) : wpAny (model W.prog W.w) A (PySem.passOn "comprehension.variables-let-go" (.ref e) cenv : Sem Value) Q E s := by
 unfold PySem.passOn
 have T' := T
 obtain ⟨_, _, _, oe, vs, he, _, hd, tb⟩ := T'
 cases tb with
 | none q _ => cases q
 | some h1 =>
  refine wpAny_bind (wpAny_field he hd h1 ?_)
  rw [if_neg (by simp)]
  have := flight_ok (A := A) (E := E) (Q := fun _ s'' => E (.ref e) s'') cenv.frame rfl SO I K T fun h₂ I₂ K₂ S₂ T₂ _ => hE h₂ I₂ K₂ (T₂ L)
  first
   | exact wpAny_bind (wpAny_mono this (fun _ _ h' => wpAny_throw h') fun _ _ h' => h')
   | exact wpAny_bind (wpAny_pure (wpAny_bind (wpAny_mono this (fun _ _ h' => wpAny_throw h') fun _ _ h' => h')))
end
end Holk
namespace Holk
open PySem PyProof.Rows
section
variable {W : Wd} {n : Nat} {C : CallT} {A : Around} {e0 : Env} {outer : List Env} {L : Addr} {env : Env} {sc : Sc} {s : Shared} {Φ : Fz} {ρ : List Addr} {σ : Store} {fr : Frame}
theorem Step.besides {fs : List Addr} {Φs : Fz} {hs h h' : Heap} {T : Addr} (S : Step ρ fs Φs hs Φ h) (hT : hs.get? T = none) (k : ∀ a o, a ≠ T → h.get? a = some o → h'.get? a = some o) : Step ρ fs Φs hs Φ h' := by
 have old : ∀ a o, hs.get? a = some o → a ≠ T := fun a o e q => by rw [q, hT] at e; cases e
 refine ⟨S.ext, S.fresh, ⟨fun a o e => ?_, fun a o h1 h2 e => k a o (old a o e) (S.kp.keep a o h1 h2 e), fun a o h1 e => ?_⟩⟩
 ·obtain ⟨o', e'⟩ := S.kp.alive a o e; exact ⟨o', k a o' (old a o e) e'⟩
 ·obtain ⟨sl, e'⟩ := S.kp.slots a o h1 e; exact ⟨sl, k a _ (old a o e) e'⟩
theorem comp_okE {scope : Scope} {ifs : List E} {elt it : E} {t : Tg} {ies : List Expr} {ee te ie : Expr} {pos : Pos} (hck : ckScope sc scope = true) (hset : notSet ie = true) (hit : OkE W n C sc it ie)
  (hi : OkIfs W n C (compSc sc scope) ifs ies) (he : OkE W n C (compSc sc scope) elt ee) (ht : ckT (compSc sc scope) t te = true) (htl : tgAll (compLoc (compSc sc scope)) t = true) :
  OkE W n C sc (.comp scope.names.length elt t it ifs) (.ListComp ee [⟨te, ie, ies, 0⟩] scope pos) := by
 intro A e0 outer L env s Φ ρ σ fr cx D
 have hsc := ckScope_iff hck
 obtain ⟨cl, hclos, hcl, hcf⟩ := closure_ok (env := env) (comp_free cx D hsc)
 rw [evx_comp]
 refine SimP.of (P' := fun Q E s => wpAny (model W.prog W.w) A (eval ie env) (fun x s₁ => wpAny (model W.prog W.w) A (pyIter x) (fun it s₂ => wpAny (model W.prog W.w) A (newList []) (fun acc s₃ =>
   wpAny (model W.prog W.w) A (newFunctionEnv scope env.globals cl [] env.qual none .none (some env)) (fun cenv s₄ =>
    codeAny (model W.prog W.w) A (.compStart (.ListComp ee [⟨te, ie, ies, 0⟩] scope pos) 0 it acc { cenv with scope := relabel scope env }) (compPost (model W.prog W.w) A E none Q acc cenv.locals) s₄) E s₃) E s₂) E s₁) E s) (fun Q E h => ?_) ?_
 ·rw [eval_ListComp]
  exact wpAny_comprehension_free rfl (fun x => folded_plain hset x) hclos hsc.kind (fun x hx hl => nodup_lookup hsc.nodup (by rw [← hl]; exact hx)) h
 ·refine SimP.seq (P2 := fun x Q E s₁ => wpAny (model W.prog W.w) A (pyIter x) (fun it s₂ => wpAny (model W.prog W.w) A (newList []) (fun acc s₃ =>
   wpAny (model W.prog W.w) A (newFunctionEnv scope env.globals cl [] env.qual none .none (some env)) (fun cenv s₄ =>
    codeAny (model W.prog W.w) A (.compStart (.ListComp ee [⟨te, ie, ies, 0⟩] scope pos) 0 it acc { cenv with scope := relabel scope env }) (compPost (model W.prog W.w) A E none Q acc cenv.locals) s₄) E s₃) E s₂) E s₁) (hit cx D) fun u x σ₁ Φ₁ h₁ k₁ e₁ I₁ S₁ r₁ => ?_
  have D₁ := D.step S₁ I₁
  cases x with
  | loc => exact .stuck
  | d x =>
  refine SimP.opt fun items hx => SimP.ite (fun hlen => ?_) fun _ => .stuck
  intro Q E hns hok herr
  refine comp_run (s := { s with heap := h₁, toks := k₁ }) (C := C) (ifs := ifs) (elt := elt) (t := t) cx hsc hcl hcf hi he ht htl D₁ r₁ hx hlen ?_ ?_ ?_
  ·intro q
   refine hns ?_
   show (compItems (compF W.G C t ifs elt (fr ++ List.replicate scope.names.length none)) items σ₁).bind _ = _
   rw [q]; rfl
  ·intro Dd Cc ys σ' Φ' h' k e' hD hC hne D' St' c1 c2 c3 ⟨ds, m, hd, rd⟩
   refine ⟨_, c3.choose_spec, fun h'' hsb => ?_⟩
   obtain ⟨I'', St'', ho⟩ := D₁.freezeAt D' St' hD c2 hC c1 hne hd hsb c3
   have hext : ∀ a o, Φ' a = some o → (Φ'.add Dd (lstO ds m)) a = some o := fun a o q => by
    have : a ≠ Dd := by rintro rfl; rw [c2] at q; cases q
    simp [Fz.add, this, q]
   refine hok (.ref Dd) (.d (.list ys)) σ' _ h'' k ?_ I'' St'' (RD.list (Fz.add_self ..) (rd.mono hext))
   show (compItems (compF W.G C t ifs elt (fr ++ List.replicate scope.names.length none)) items σ₁).bind _ = _
   rw [e']; rfl
  ·intro Dd Cc e σ' Φ' h' k e' hC D' St' c1 c2 T'
   refine ⟨_, c2.choose_spec, fun h'' hsb cenv _ => ?_⟩
   have aC := D₁.apart hC c1
   have D'' : Dy W Φ' ρ σ' (e0 :: outer) env sc.vars fr h'' := D'.other ⟨aC.1, aC.2.1, aC.2.2.1, aC.2.2.2.1⟩ c1 fun a o hne q => (hsb.2 a hne).trans q
   have St'' := St'.besides hC fun a o hne q => (hsb.2 a hne).trans q
   refine pass_ok (s := { s with heap := h'', toks := k }) (h := h₁) D''.inv D''.stk St''.kp (T'.sameBut hsb c2) fun h₃ I₃ K₃ T₃ => ?_
   refine herr e σ' Φ' h₃ k ?_ I₃ ⟨St''.ext, St''.fresh, K₃⟩ T₃
   show (compItems (compF W.G C t ifs elt (fr ++ List.replicate scope.names.length none)) items σ₁).bind _ = _
   rw [e']; rfl
end
end Holk
namespace Holk
open PySem PyProof.Rows
section
variable {W : Wd} {n : Nat} {C : CallT}
theorem btw_okE {sc : Sc} {a b c : E} {l m r : Expr} {pos : Pos} (ha : OkE W n C sc a l) (hb : OkE W n C sc b m) (hc : OkE W n C sc c r) : OkE W n C sc (.btw a b c) (.Compare l [.LtE, .Lt] [m, r] pos) := by
 intro A e0 outer L env s Φ ρ σ fr cx D
 rw [evx_btw]
 refine SimP.of (P' := fun Q E s => wpAny (model W.prog W.w) A (eval l env) (fun va s₁ => wpAny (model W.prog W.w) A (eval m env) (fun vb s₂ => wpAny (model W.prog W.w) A (compareOp .LtE va vb) (fun c s₃ => wpAny (model W.prog W.w) A (truthy c) (fun t s₄ =>
   if t then wpAny (model W.prog W.w) A (eval r env) (fun vc s₅ => wpAny (model W.prog W.w) A (compareOp .Lt vb vc) Q E s₅) E s₄ else Q c s₄) E s₃) E s₂) E s₁) E s) (fun Q E h => ?_) ?_
 ·refine Compare_chain (rs := []) (ops := []) (wpAny_mono h (fun va s₁ h₁ => chain_link (wpAny_mono h₁ (fun vb s₂ h₂ => wpAny_mono h₂ (fun c s₃ h₃ => wpAny_mono h₃ (fun t s₄ h₄ => ?_) fun _ _ x => x) fun _ _ x => x) fun _ _ x => x)) fun _ _ x => x) (by cases r <;> first | rfl | simp [lastMarks, behindInMarks])
  cases t with
  | false => exact h₄
  | true => exact chain_last (by simpa using h₄)
 ·refine SimP.seq (ha cx D) fun va ya σ₁ Φ₁ h₁ k₁ e₁ I₁ S₁ r₁ => ?_
  refine SimP.seq (hb cx (D.step S₁ I₁)) fun vb yb σ₂ Φ₂ h₂ k₂ e₂ I₂ S₂ r₂ => ?_
  have D₂ := (D.step S₁ I₁).step S₂ I₂
  refine SimP.opt fun x hx => SimP.opt fun y hy => SimP.opt fun t ht => ?_
  have q : ∀ (Q : Value → Shared → Prop) (E : Value → Shared → Prop), Q (.bool t) { s with heap := h₂, toks := k₂ } → wpAny (model W.prog W.w) A (compareOp .LtE va vb) Q E { s with heap := h₂, toks := k₂ } := fun Q E hQ => cmp_ok (s := { s with heap := h₂, toks := k₂ }) (op := .le) I₂ (cx_units cx) (I₂.deref (VR.mono S₂.ext r₁) hx) (I₂.deref r₂ hy) ht hQ
  obtain ⟨i, j, rfl, rfl⟩ := le_int ht
  have hyb := deref_int hy
  subst hyb
  cases t with
  | false => exact SimP.ok fun Q E hQ => q _ _ (wpAny_truthy_bool (hQ _ Φ₂ h₂ k₂ I₂ (.refl ..) (RD.bool _)))
  | true =>
   refine SimP.of (P' := fun Q E s₄ => wpAny (model W.prog W.w) A (eval r env) (fun vc s₅ => wpAny (model W.prog W.w) A (compareOp .Lt vb vc) Q E s₅) E s₄) (fun Q E h => q _ _ (wpAny_truthy_bool (by simpa using h))) ?_
   refine SimP.seq (P2 := fun vc Q E s₅ => wpAny (model W.prog W.w) A (compareOp .Lt vb vc) Q E s₅) (hc cx D₂) fun vc yc σ₃ Φ₃ h₃ k₃ e₃ I₃ S₃ r₃ => ?_
   refine SimP.opt fun z hz => SimP.opt fun t ht => SimP.ok fun Q E hQ => ?_
   exact cmp_ok (s := { s with heap := h₃, toks := k₃ }) (op := .lt) I₃ (cx_units cx) (.frz (RD.mono S₃.ext r₂)) (I₃.deref r₃ hz) ht (hQ _ Φ₃ h₃ k₃ I₃ (.refl ..) (RD.bool _))
noncomputable def OkEs (W : Wd) (n : Nat) (C : CallT) (sc : Sc) (xs : List E) (es : List Expr) : Prop :=
 ∀ (pos : Pos) {A : Around} {e0 : Env} {outer : List Env} {L : Addr} {env : Env} {s : Shared} {Φ : Fz} {ρ : List Addr} {σ : Store} {fr : Frame}, Cx W n A e0 outer L env sc → Dy W Φ ρ σ (e0 :: outer) env sc.vars fr s.heap → Sim W A (e0 :: outer) L ρ (spliced (backTo pos (starEach es env))) Φ s (evEs W.G C xs fr σ) (VRels ρ)
structure OkL (W : Wd) (n : Nat) (C : CallT) (sc : Sc) (xs : List E) (es : List Expr) : Prop where
 vals : OkEs W n C sc xs es
 band : xs ≠ [] → OkBool W n C sc .And xs es
 bor : xs ≠ [] → OkBool W n C sc .Or xs es
 aand : OkAll W n C sc .And xs es
 aor : OkAll W n C sc .Or xs es
 ifs : OkIfs W n C sc xs es
theorem okL_nil {sc : Sc} : OkL W n C sc [] [] := ⟨fun _ => fun _ D => es_nil D, fun h => absurd rfl h, fun h => absurd rfl h, all_and_nil, all_or_nil, ifs_nil⟩
theorem okL_cons {sc : Sc} {x : E} {xs : List E} {e : Expr} {es : List Expr} (hst : notStar e = true) (hl : xs = [] ↔ es = []) (h : OkE W n C sc x e) (ht : OkT W n C sc x e) (r : OkL W n C sc xs es) : OkL W n C sc (x :: xs) (e :: es) := by
 refine ⟨fun pos => es_cons hst h (r.vals pos), fun _ => ?_, fun _ => ?_, all_and ht r.aand, all_or ht r.aor, ifs_cons ht r.ifs⟩
 ·cases xs with
  | nil => rw [hl.mp rfl]; exact bool_one h
  | cons y ys =>
   cases es with
   | nil => exact absurd (hl.mpr rfl) (by simp)
   | cons f fs => exact bool_and h (r.band (by simp))
 ·cases xs with
  | nil => rw [hl.mp rfl]; exact bool_one h
  | cons y ys =>
   cases es with
   | nil => exact absurd (hl.mpr rfl) (by simp)
   | cons f fs => exact bool_or h (r.bor (by simp))
theorem ckEs_nil {sc : Sc} : ∀ {xs : List E} {es : List Expr}, ckEs W.GN W.FN sc xs es = true → (xs = [] ↔ es = [])
 | [], es, h => by (first | rw [Z146] at h | rw [Z147] at h); simp at h; simp [h]
 | x :: xs, [], h => by simp [Z146, Z147] at h
 | x :: xs, e :: es, h => by simp
theorem boolOp_okE {sc : Sc} {op : BoolOp} {xs : List E} {es : List Expr} {pos : Pos} (h : OkBool W n C sc op xs es) (x : E) (hx : ∀ fr σ, evE W.G C x fr σ = (match op with | .And => evAnd W.G C xs fr σ | .Or => evOr W.G C xs fr σ)) : OkE W n C sc x (.BoolOp op es pos) := by
 intro A e0 outer L env s Φ ρ σ fr cx D
 rw [hx]
 cases op <;> exact SimP.of (fun Q E h => h) (h pos cx D)
theorem boolOp_okT {sc : Sc} {op : BoolOp} {xs : List E} {es : List Expr} {pos : Pos} (h : OkAll W n C sc op xs es) (x : E) (hx : ∀ fr σ, evE W.G C x fr σ = (match op with | .And => evAnd W.G C xs fr σ | .Or => evOr W.G C xs fr σ)) : OkT W n C sc x (.BoolOp op es pos) := by
 intro A e0 outer L env s Φ ρ σ fr cx D
 unfold evB
 rw [hx]
 cases op <;> exact SimP.of (fun Q E h => wpAny_isTrue_BoolOp h) (h cx D)
theorem pair {sc : Sc} {x : E} {e : Expr} (he : ∀ env whole, isTrue e env whole = (do let v ← whole; standAt e.pos; holding [v] (truthy v))) (h : OkE W n C sc x e) : OkE W n C sc x e ∧ OkT W n C sc x e := ⟨h, okT_plain h he⟩
theorem cmp_ok2 {sc : Sc} {op : Cm} {a b : E} {l r : Expr} {o : CmpOp} {pos : Pos} (ho : o = cmOp op) (hb : behindInMarks o r = false) (ha : OkE W n C sc a l) (hr : OkE W n C sc b r) : OkE W n C sc (.cmp op a b) (.Compare l [o] [r] pos) ∧ OkT W n C sc (.cmp op a b) (.Compare l [o] [r] pos) := ⟨cmp_okE ho hb ha hr, cmp_okT ho hb ha hr⟩
theorem ne_nil_of {α : Type} {xs : List α} (h : (!xs.isEmpty) = true) : xs ≠ [] := fun q => by subst q; exact Bool.noConfusion h
theorem and_ok2 {sc : Sc} {xs : List E} {es : List Expr} {pos : Pos} (h : (!xs.isEmpty) = true) (r : OkL W n C sc xs es) : OkE W n C sc (.and xs) (.BoolOp .And es pos) ∧ OkT W n C sc (.and xs) (.BoolOp .And es pos) := ⟨boolOp_okE (r.band (ne_nil_of h)) _ fun fr σ => rfl, boolOp_okT r.aand _ fun fr σ => rfl⟩
theorem or_ok2 {sc : Sc} {xs : List E} {es : List Expr} {pos : Pos} (h : (!xs.isEmpty) = true) (r : OkL W n C sc xs es) : OkE W n C sc (.or xs) (.BoolOp .Or es pos) ∧ OkT W n C sc (.or xs) (.BoolOp .Or es pos) := ⟨boolOp_okE (r.bor (ne_nil_of h)) _ fun fr σ => rfl, boolOp_okT r.aor _ fun fr σ => rfl⟩
theorem comp_okC {sc : Sc} {scope : Scope} {ifs : List E} {elt it : E} {t : Tg} {m : Nat} {ee : Expr} {g : Comprehension} {pos : Pos} (hz : g.is_async = 0) (hm : m = scope.names.length) (hck : ckScope sc scope = true) (hset : notSet g.iter = true) (hit : OkE W n C sc it g.iter)
  (hi : OkIfs W n C (compSc sc scope) ifs g.ifs) (he : OkE W n C (compSc sc scope) elt ee) (ht : ckT (compSc sc scope) t g.target = true) (htl : tgAll (compLoc (compSc sc scope)) t = true) :
  OkE W n C sc (.comp m elt t it ifs) (.ListComp ee [g] scope pos) := by
 subst hm
 obtain ⟨t', it', ifs', z⟩ := g
 subst hz
 exact comp_okE hck hset hit hi he ht htl
variable (B : Base W) (FO : FunsOk W) (hC : CallOk W n C)
include B FO hC
mutual
theorem sim : ∀ (x : E) (sc : Sc) (e : Expr), ckE W.GN W.FN sc x e = true → OkE W n C sc x e ∧ OkT W n C sc x e
 | .con x, sc, e, h => by
  replace h := anyS_iff h
  obtain ⟨c, ⟨k, p, rfl⟩, h⟩ := h
  exact pair (fun _ _ => rfl) (con_ok h)
 | .var i, sc, e, h => by
  replace h := anyS_iff h
  obtain ⟨c, ⟨p, rfl⟩, h⟩ := h
  exact pair (fun _ _ => rfl) (var_ok h)
 | .glob g, sc, e, h => by
  replace h := anyS_iff h
  obtain ⟨c, ⟨p, rfl⟩, h⟩ := h
  obtain ⟨h1, h⟩ := and2 h
  exact pair (fun _ _ => rfl) (glob_ok B h1 h)
 | .tup xs, sc, e, h => by
  replace h := anyS_iff h
  obtain ⟨c, ⟨k, p, rfl⟩, h⟩ := h
  obtain ⟨h1, h⟩ := and2 h
  exact pair (fun _ _ => rfl) (tup_ok (of_decide_eq_true h1) ((sims xs sc _ h).vals _))
 | .lst xs, sc, e, h => by
  replace h := anyS_iff h
  obtain ⟨c, ⟨p, rfl⟩, h⟩ := h
  obtain ⟨h1, h⟩ := and2 h
  exact pair (fun _ _ => rfl) (lst_ok (of_decide_eq_true h1) ((sims xs sc _ h).vals _))
 | .idx a i, sc, e, h => by
  replace h := anyS_iff h
  obtain ⟨c, ⟨p, rfl⟩, h⟩ := h
  obtain ⟨h1, h⟩ := and2 h
  obtain ⟨h2, h⟩ := and2 h
  exact pair (fun _ _ => rfl) (idx_okE h1 (sim a sc _ h2).1 (sim i sc _ h).1)
 | .slc a lo hi, sc, e, h => Bool.noConfusion h
 | .cmp op a b, sc, e, h => by
  replace h := anyS_iff h
  obtain ⟨q, ⟨p, rfl⟩, h⟩ := h
  obtain ⟨h1, h⟩ := and2 h
  obtain ⟨h2, h⟩ := and2 h
  obtain ⟨h3, h⟩ := and2 h
  exact cmp_ok2 (beq_of h1) ((Bool.not_eq_true' _).mp h2) (sim a sc _ h3).1 (sim b sc _ h).1
 | .btw a b c, sc, e, h => by
  replace h := anyS_iff h
  obtain ⟨q, ⟨p, rfl⟩, h⟩ := h
  obtain ⟨h1, h⟩ := and2 h
  obtain ⟨h2, h⟩ := and2 h
  exact ⟨btw_okE (sim a sc _ h1).1 (sim b sc _ h2).1 (sim c sc _ h).1, btw_okT (sim a sc _ h1).1 (sim b sc _ h2).1 (sim c sc _ h).1⟩
 | .and xs, sc, e, h => by
  replace h := anyS_iff h
  obtain ⟨q, ⟨p, rfl⟩, h⟩ := h
  obtain ⟨h1, h⟩ := and2 h
  exact and_ok2 h1 (sims xs sc _ h)
 | .or xs, sc, e, h => by
  replace h := anyS_iff h
  obtain ⟨q, ⟨p, rfl⟩, h⟩ := h
  obtain ⟨h1, h⟩ := and2 h
  exact or_ok2 h1 (sims xs sc _ h)
 | .not a, sc, e, h => by
  replace h := anyS_iff h
  obtain ⟨q, ⟨p, rfl⟩, h⟩ := h
  exact ⟨not_okE (sim a sc _ h).1, not_okT (sim a sc _ h).2⟩
 | .bin op a b, sc, e, h => by
  replace h := anyS_iff h
  obtain ⟨q, ⟨p, rfl⟩, h⟩ := h
  obtain ⟨h1, h⟩ := and2 h
  obtain ⟨h2, h⟩ := and2 h
  exact pair (fun _ _ => rfl) (bin_okE (beq_of h1) (sim a sc _ h2).1 (sim b sc _ h).1)
 | .neg a, sc, e, h => by
  replace h := anyS_iff h
  obtain ⟨q, ⟨p, rfl⟩, h⟩ := h
  exact pair (fun _ _ => rfl) (neg_okE (sim a sc _ h).1)
 | .call f xs, sc, e, h => by
  replace h := anyS_iff h
  obtain ⟨q, ⟨px, p, rfl⟩, h⟩ := h
  obtain ⟨h1, h⟩ := and2 h
  obtain ⟨h2, h⟩ := and2 h
  exact pair (fun _ _ => rfl) (call_okE B FO hC h1 h2 h ((sims xs sc _ h).vals _))
 | .len a, sc, e, h => by
  replace h := anyS_iff h
  obtain ⟨q, ⟨px, p, rfl⟩, h⟩ := h
  obtain ⟨h1, h⟩ := and2 h
  obtain ⟨h2, h⟩ := and2 h
  obtain ⟨h3, h⟩ := and2 h
  exact pair (fun _ _ => rfl) (len_okE B h1 (beq_of h2) h3 (sim a sc _ h).1)
 | .toTup a, sc, e, h => by
  replace h := anyS_iff h
  obtain ⟨q, ⟨px, p, rfl⟩, h⟩ := h
  obtain ⟨h1, h⟩ := and2 h
  obtain ⟨h2, h⟩ := and2 h
  obtain ⟨h3, h⟩ := and2 h
  exact pair (fun _ _ => rfl) (toTup_okE B h1 (beq_of h2) h3 (sim a sc _ h).1)
 | .toLst a, sc, e, h => by
  replace h := anyS_iff h
  obtain ⟨q, ⟨px, p, rfl⟩, h⟩ := h
  obtain ⟨h1, h⟩ := and2 h
  obtain ⟨h2, h⟩ := and2 h
  obtain ⟨h3, h⟩ := and2 h
  exact pair (fun _ _ => rfl) (toLst_okE B h1 (beq_of h2) h3 (sim a sc _ h).1)
 | .isBool a, sc, e, h => by
  replace h := anyS_iff h
  obtain ⟨q, ⟨p1, p2, p3, p, rfl⟩, h⟩ := h
  obtain ⟨h1, h⟩ := and2 h
  obtain ⟨h2, h⟩ := and2 h
  obtain ⟨h3, h⟩ := and2 h
  obtain ⟨h4, h⟩ := and2 h
  obtain ⟨h5, h⟩ := and2 h
  exact ⟨isBool_okE B h1 (beq_of h2) h3 (beq_of h4) h5 (sim a sc _ h).1, isBool_okT B h1 (beq_of h2) h3 (beq_of h4) h5 (sim a sc _ h).1⟩
 | .dHas ng a i, sc, e, h => by
  replace h := anyS_iff h
  obtain ⟨q, ⟨px, p, rfl⟩, h⟩ := h
  obtain ⟨h1, h⟩ := and2 h
  obtain ⟨h2, h⟩ := and2 h
  exact ⟨dHas_okE B (beq_of h1) h2 (sim a sc _ h).1, dHas_okT B (beq_of h1) h2 (sim a sc _ h).1⟩
 | .dGet i a, sc, e, h => by
  replace h := anyS_iff h
  obtain ⟨q, ⟨px, p, rfl⟩, h⟩ := h
  obtain ⟨h1, h⟩ := and2 h
  obtain ⟨h2, h⟩ := and2 h
  exact pair (fun _ _ => rfl) (dGet_okE B h1 h2 (sim a sc _ h).1)
 | .comp m elt t it ifs, sc, e, h => by
  replace h := anyS_iff h
  obtain ⟨q, ⟨p, rfl⟩, h⟩ := h
  obtain ⟨h1, h⟩ := and2 h
  obtain ⟨h2, h⟩ := and2 h
  obtain ⟨h3, h⟩ := and2 h
  obtain ⟨h4, h⟩ := and2 h
  obtain ⟨h5, h⟩ := and2 h
  obtain ⟨h6, h⟩ := and2 h
  obtain ⟨h7, h⟩ := and2 h
  obtain ⟨h8, h⟩ := and2 h
  exact pair (fun _ _ => rfl) (comp_okC (beq_of h1) (beq_of h2) h3 h4 (sim it sc _ h5).1 (sims ifs _ _ h8).ifs (sim elt _ _ h).1 h6 h7)
theorem sims : ∀ (xs : List E) (sc : Sc) (es : List Expr), ckEs W.GN W.FN sc xs es = true → OkL W n C sc xs es
 | [], sc, [], h => okL_nil
 | [], sc, _ :: _, h => Bool.noConfusion h
 | x :: xs, sc, [], h => Bool.noConfusion h
 | x :: xs, sc, e :: es, h => by
  have h := and2 h
  have h1 := and2 h.1
  have := sim x sc _ h1.2
  exact okL_cons h1.1 (ckEs_nil h.2) this.1 this.2 (sims xs sc _ h.2)
end
end
end Holk
namespace Holk
open PySem PyProof.Rows
structure Fx where
 e0 : Env
 outer : List Env
 L : Addr
 env : Env
 sc : Sc
 Φs : Fz
 hs : Heap
 ρ₀ : List Addr
noncomputable abbrev Fx.l (F : Fx) : List Env := F.e0 :: F.outer
structure SE (W : Wd) (F : Fx) (Φ : Fz) (ρ : List Addr) (σ : Store) (h : Heap) : Prop where
 inv : Inv W Φ ρ σ h
 stk : StackOk F.l Φ ρ h
 st : Step F.ρ₀ (frs F.l) F.Φs F.hs Φ h
 pre : ∃ r, ρ = F.ρ₀ ++ r ∧ ∀ a ∈ r, F.hs.get? a = none
structure SS (W : Wd) (F : Fx) (Φ : Fz) (ρ : List Addr) (σ : Store) (fr : Frame) (h : Heap) : Prop where
 se : SE W F Φ ρ σ h
 frm : FrOk Φ ρ F.env F.sc.vars fr h
 own : ∀ a, own F.env a → F.hs.get? a = none
section
variable {W : Wd} {F : Fx} {Φ Φ' : Fz} {ρ ρ' : List Addr} {σ σ' : Store} {fr fr' : Frame} {h h' : Heap} {s : Shared} {A : Around} {n : Nat} {C : CallT}
theorem SS.dy (S : SS W F Φ ρ σ fr h) : Dy W Φ ρ σ F.l F.env F.sc.vars fr h := ⟨S.se.inv, S.se.stk, S.frm⟩
theorem SE.mem (S : SE W F Φ ρ σ h) {a : Addr} (ha : a ∈ ρ) : a ∈ F.ρ₀ ∨ F.hs.get? a = none := by
 obtain ⟨r, rfl, hr⟩ := S.pre
 rcases List.mem_append.mp ha with q | q
 ·exact .inl q
 ·exact .inr (hr a q)
theorem Kp.comp {X Y : Addr → Prop} {fs : List Addr} {hs : Heap} (S : Kp X fs hs h) (k : Kp Y fs h h') (hm : ∀ a o, hs.get? a = some o → Y a → X a) : Kp X fs hs h' :=
 ⟨fun a o e => let ⟨o', e'⟩ := S.alive a o e; k.alive a o' e', fun a o hx hf e => k.keep a o (fun q => hx (hm a o e q)) hf (S.keep a o hx hf e), fun a o hx e => let ⟨_, e'⟩ := S.slots a o hx e; let ⟨sl, e''⟩ := k.slots a _ (fun q => hx (hm a o e q)) e'; ⟨sl, e''⟩⟩
theorem Step.under {ρ₀ fs : List Addr} {Φs : Fz} {hs : Heap} (S : Step ρ₀ fs Φs hs Φ h) (k : Step ρ fs Φ h Φ' h') (hm : ∀ a ∈ ρ, a ∈ ρ₀ ∨ hs.get? a = none) : Step ρ₀ fs Φs hs Φ' h' :=
 ⟨fun a o e => k.ext a o (S.ext a o e), fun a o e => let ⟨o', e'⟩ := S.kp.alive a o e; (k.fresh a o' e').trans (S.fresh a o e), S.kp.comp k.kp fun a o e ha => (hm a ha).elim id fun q => by rw [q] at e; cases e⟩
theorem SE.step (S : SE W F Φ ρ σ h) (k : Step ρ (frs F.l) Φ h Φ' h') (I : Inv W Φ' ρ σ' h') : SE W F Φ' ρ σ' h' :=
 ⟨I, S.stk.step k, S.st.under k fun a ha => S.mem ha, S.pre⟩
theorem SS.step (S : SS W F Φ ρ σ fr h) (k : Step ρ (frs F.l) Φ h Φ' h') (I : Inv W Φ' ρ σ' h') : SS W F Φ' ρ σ' fr h' :=
 ⟨S.se.step k I, (S.dy.step k I).frm, S.own⟩
theorem SS.store (S : SS W F Φ ρ σ fr h) (D : Dy W Φ ρ σ F.l F.env F.sc.vars fr' h') (k : Kp (Holk.own F.env) (frs F.l) h h') : SS W F Φ ρ σ fr' h' :=
 ⟨⟨D.inv, D.stk, ⟨S.se.st.ext, S.se.st.fresh, S.se.st.kp.comp k fun a o e q => by rw [S.own a q] at e; cases e⟩, S.se.pre⟩, D.frm, S.own⟩
structure Mv (F : Fx) (Φ : Fz) (ρ : List Addr) (h : Heap) (Φ' : Fz) (ρ' : List Addr) (h' : Heap) : Prop where
 ext : ∀ a o, Φ a = some o → Φ' a = some o
 fresh : ∀ a o, h.get? a = some o → Φ' a = Φ a
 kp : Kp (fun a => Holk.own F.env a ∨ a ∈ ρ) (frs F.l) h h'
 pre : ∃ r, ρ' = ρ ++ r ∧ ∀ a ∈ r, h.get? a = none
theorem Mv.refl : Mv F Φ ρ h Φ ρ h := ⟨fun _ _ e => e, fun _ _ _ => rfl, .refl .., [], by simp, by simp⟩
theorem Mv.trans {Φ'' : Fz} {ρ'' : List Addr} {h'' : Heap} (a : Mv F Φ ρ h Φ' ρ' h') (b : Mv F Φ' ρ' h' Φ'' ρ'' h'') : Mv F Φ ρ h Φ'' ρ'' h'' := by
 obtain ⟨r, hr, hf⟩ := a.pre
 obtain ⟨r', hr', hf'⟩ := b.pre
 refine ⟨fun x o e => b.ext x o (a.ext x o e), fun x o e => let ⟨o', e'⟩ := a.kp.alive x o e; (b.fresh x o' e').trans (a.fresh x o e), a.kp.comp b.kp fun x o e q => ?_, r ++ r', by rw [hr', hr]; simp, fun x hx => ?_⟩
 ·rcases q with q | q
  ·exact .inl q
  ·rw [hr] at q
   rcases List.mem_append.mp q with q | q
   ·exact .inr q
   ·rw [hf x q] at e; cases e
 ·rcases List.mem_append.mp hx with q | q
  ·exact hf x q
  ·cases e : h.get? x with
   | none => rfl
   | some o => obtain ⟨o', e'⟩ := a.kp.alive x o e; rw [hf' x q] at e'; cases e'
theorem Mv.step (S : Step ρ (frs F.l) Φ h Φ' h') : Mv F Φ ρ h Φ' ρ h' := ⟨S.ext, S.fresh, S.kp.mono (fun _ q => .inr q) fun _ q => q, [], by simp, by simp⟩
theorem Mv.bind (K : Kp (Holk.own F.env) (frs F.l) h h') : Mv F Φ ρ h Φ ρ h' := ⟨fun _ _ e => e, fun _ _ _ => rfl, K.mono (fun _ q => .inl q) fun _ q => q, [], by simp, by simp⟩
theorem Mv.cell {a : Addr} (k : ∀ b o, h.get? b = some o → h'.get? b = some o) (ha : h.get? a = none) : Mv F Φ ρ h Φ (ρ ++ [a]) h' := ⟨fun _ _ e => e, fun _ _ _ => rfl, .of_ext k, [a], rfl, by simp [ha]⟩
theorem Mv.other {h'' : Heap} {T : Addr} (M : Mv F Φ ρ h Φ' ρ' h') (hT : h.get? T = none) (k : ∀ a o, a ≠ T → h'.get? a = some o → h''.get? a = some o) : Mv F Φ ρ h Φ' ρ' h'' := by
 have old : ∀ a o, h.get? a = some o → a ≠ T := fun a o e q => by rw [q, hT] at e; cases e
 exact ⟨M.ext, M.fresh, ⟨fun a o e => let ⟨o', e'⟩ := M.kp.alive a o e; ⟨o', k a o' (old a o e) e'⟩, fun a o h1 h2 e => k a o (old a o e) (M.kp.keep a o h1 h2 e), fun a o h1 e => let ⟨sl, e'⟩ := M.kp.slots a o h1 e; ⟨sl, k a _ (old a o e) e'⟩⟩, M.pre⟩
noncomputable def SimS (W : Wd) (F : Fx) (P : (Flow → Shared → Prop) → (Value → Shared → Prop) → Shared → Prop) (Φ : Fz) (ρ : List Addr) (s : Shared) (R : XR) : Prop :=
 ∀ (Q : Flow → Shared → Prop) (E : Value → Shared → Prop), R ≠ .stuck →
  (∀ fr' σ' Φ' ρ' h' k, R = .next fr' σ' → SS W F Φ' ρ' σ' fr' h' → Mv F Φ ρ s.heap Φ' ρ' h' → Q .next { s with heap := h', toks := k }) →
  (∀ u v σ' Φ' ρ' h' k, R = .ret v σ' → SE W F Φ' ρ' σ' h' → VR Φ' ρ' u v → Q (.ret u) { s with heap := h', toks := k }) →
  (∀ e σ' Φ' ρ' h' k, R = .err σ' → SE W F Φ' ρ' σ' h' → Thrown Φ' ρ' F.L F.hs h' e false → E (.ref e) { s with heap := h', toks := k }) →
  P Q E s
noncomputable def OkS (W : Wd) (n : Nat) (C : CallT) (sc : Sc) (x : S) (st : Stmt) : Prop :=
 ∀ {A : Around} {F : Fx} {s : Shared} {Φ : Fz} {ρ : List Addr} {σ : Store} {fr : Frame}, F.sc = sc → Cx W n A F.e0 F.outer F.L F.env F.sc → SS W F Φ ρ σ fr s.heap →
  SimS W F (fun Q E s => wpAny (model W.prog W.w) A (exec st F.env) Q E s) Φ ρ s (exS W.G C x fr σ)
noncomputable def OkSs (W : Wd) (n : Nat) (C : CallT) (sc : Sc) (xs : List S) (sts : List Stmt) : Prop :=
 ∀ {A : Around} {F : Fx} {s : Shared} {Φ : Fz} {ρ : List Addr} {σ : Store} {fr : Frame}, F.sc = sc → Cx W n A F.e0 F.outer F.L F.env F.sc → SS W F Φ ρ σ fr s.heap →
  SimS W F (fun Q E s => wpAny (model W.prog W.w) A (execs sts F.env) Q E s) Φ ρ s (exSs W.G C xs fr σ)
theorem SimS.of {P P' : (Flow → Shared → Prop) → (Value → Shared → Prop) → Shared → Prop} {R : XR} (hP : ∀ Q E, P' Q E s → P Q E s) (H : SimS W F P' Φ ρ s R) : SimS W F P Φ ρ s R :=
 fun Q E h1 h2 h3 h4 => hP Q E (H Q E h1 h2 h3 h4)
theorem SimS.stuck {P : (Flow → Shared → Prop) → (Value → Shared → Prop) → Shared → Prop} : SimS W F P Φ ρ s .stuck := fun _ _ h => absurd rfl h
theorem SimS.next {P : (Flow → Shared → Prop) → (Value → Shared → Prop) → Shared → Prop} {fr : Frame} {σ : Store}
  (H : ∀ Q E, (∀ Φ' ρ' h' k, SS W F Φ' ρ' σ fr h' → Mv F Φ ρ s.heap Φ' ρ' h' → Q .next { s with heap := h', toks := k }) → P Q E s) : SimS W F P Φ ρ s (.next fr σ) :=
 fun Q E _ h2 _ _ => H Q E fun Φ' ρ' h' k S M => h2 fr σ Φ' ρ' h' k rfl S M
theorem SimS.val {α β : Type} {t : Sem α} {R : Res β} {Rel : Fz → α → β → Prop} {P2 : α → (Flow → Shared → Prop) → (Value → Shared → Prop) → Shared → Prop} {g : β → Store → XR} (S : SS W F Φ ρ σ fr s.heap)
  (H : Sim W A F.l F.L ρ t Φ s R Rel) (H2 : ∀ a b σ' Φ' h' k, R = .ok b σ' → SS W F Φ' ρ σ' fr h' → Rel Φ' a b → SimS W F (P2 a) Φ' ρ { s with heap := h', toks := k } (g b σ')) :
  SimS W F (fun Q E s => wpAny (model W.prog W.w) A t (fun a s' => P2 a Q E s') E s) Φ ρ s (R.then g) := by
 intro Q E h1 h2 h3 h4
 refine H _ _ (fun q => h1 (by rw [q]; rfl)) (fun a b σ' Φ' h' k e I St r => ?_) fun x σ' Φ' h' k e I St T => h4 x σ' Φ' ρ h' k (by rw [e]; rfl) (S.se.step St I) (T.back S.se.st.kp.alive)
 subst e
 exact H2 a b σ' Φ' h' k rfl (S.step St I) r Q E h1 (fun fr' σ'' Φ'' ρ'' h'' k'' e S' M => h2 fr' σ'' Φ'' ρ'' h'' k'' e S' ((Mv.step St).trans M)) (fun u v σ'' Φ'' ρ'' h'' k'' e => h3 u v σ'' Φ'' ρ'' h'' k'' e) fun x σ'' Φ'' ρ'' h'' k'' e => h4 x σ'' Φ'' ρ'' h'' k'' e
theorem SimS.opt {γ : Type} {P : (Flow → Shared → Prop) → (Value → Shared → Prop) → Shared → Prop} {o : Option γ} {g : γ → Store → XR} (H : ∀ x, o = some x → SimS W F P Φ ρ s (g x σ)) : SimS W F P Φ ρ s ((Res.of σ o).then g) := by
 cases o with
 | none => exact .stuck
 | some x => exact H x rfl
theorem SimS.ite {P : (Flow → Shared → Prop) → (Value → Shared → Prop) → Shared → Prop} {c : Prop} [Decidable c] {R₁ R₂ : XR} (h1 : c → SimS W F P Φ ρ s R₁) (h2 : ¬ c → SimS W F P Φ ρ s R₂) : SimS W F P Φ ρ s (if c then R₁ else R₂) := by
 split
 ·exact h1 ‹_›
 ·exact h2 ‹_›
theorem oks_nil {sc : Sc} : OkSs W n C sc [] [] := by
 intro A F s Φ ρ σ fr hF cx S
 (first | rw [Z53] | rw [Z54])
 exact SimS.next fun Q E hQ => wpAny_execs_nil (hQ Φ ρ s.heap s.toks S .refl)
theorem oks_cons {sc : Sc} {x : S} {xs : List S} {st : Stmt} {sts : List Stmt} (h : OkS W n C sc x st) (hr : OkSs W n C sc xs sts) : OkSs W n C sc (x :: xs) (st :: sts) := by
 intro A F s Φ ρ σ fr hF cx S
 (first | rw [Z53] | rw [Z54])
 intro Q E h1 h2 h3 h4
 refine wpAny_execs_cons (h hF cx S _ _ (fun q => h1 (by rw [q]; rfl)) (fun fr' σ' Φ' ρ' h' k e S' M => ?_) (fun u v σ' Φ' ρ' h' k e S' r => ?_) fun e σ' Φ' ρ' h' k q S' T => ?_)
 ·rw [e] at h1 h2 h3 h4
  exact hr hF cx S' Q E h1 (fun fr' σ'' Φ'' ρ'' h'' k'' e S'' M' => h2 fr' σ'' Φ'' ρ'' h'' k'' e S'' (M.trans M')) (fun u v σ'' Φ'' ρ'' h'' k'' e => h3 u v σ'' Φ'' ρ'' h'' k'' e) fun x σ'' Φ'' ρ'' h'' k'' e => h4 x σ'' Φ'' ρ'' h'' k'' e
 ·exact h3 u v σ' Φ' ρ' h' k (by rw [e]; rfl) S' r
 ·exact h4 e σ' Φ' ρ' h' k (by rw [q]; rfl) S' T
theorem ite_okS {sc : Sc} {c : E} {a b : List S} {test : Expr} {body orelse : List Stmt} {pos : Pos} (hc : OkT W n C sc c test) (ha : OkSs W n C sc a body) (hb : OkSs W n C sc b orelse) : OkS W n C sc (.ite c a b) (.If test body orelse pos) := by
 intro A F s Φ ρ σ fr hF cx S
 subst hF
 rw [exx_ite]
 have q : ((evE W.G C c fr σ).then fun v σ => (Res.of σ (asBool v)).then fun t σ => if t then exSs W.G C a fr σ else exSs W.G C b fr σ) = (evB W.G C c fr σ).then fun t σ => if t then exSs W.G C a fr σ else exSs W.G C b fr σ := by
  unfold evB
  cases evE W.G C c fr σ <;> rfl
 rw [q]
 refine SimS.of (fun Q E h => wpAny_If h) (SimS.val S (hc cx S.dy) fun t t' σ' Φ' h' k e S' r => ?_)
 cases r
 cases t
 ·exact hb rfl cx S'
 ·exact ha rfl cx S'
theorem ret_okS {sc : Sc} {x : E} {e : Expr} {pos : Pos} (hx : OkE W n C sc x e) : OkS W n C sc (.ret x) (.Return (some e) pos) := by
 intro A F s Φ ρ σ fr hF cx S
 subst hF
 rw [exx_ret]
 refine SimS.of (fun Q E h => wpAny_Return_some h) (SimS.val (P2 := fun v Q E s' => Q (.ret v) s') S (hx cx S.dy) fun u v σ' Φ' h' k e S' r => ?_)
 intro Q E _ _ h3 _
 exact h3 u v σ' Φ' ρ h' k rfl S'.se r
end
end Holk
namespace Holk
open PySem PyProof.Rows
noncomputable def swb (sc : Sc) (value t : Expr) : Bool := match value with
 | .ListComp _ _ s p => match t with
  | .Name id pos => sc.names.lookup id == some NameKind.local && pos.line == p.line && !(s.names.any fun (n, k) => n == id && (k == .local || k == .cell))
  | _ => false
 | _ => false
noncomputable def noComp : Expr → Bool
 | .SetComp .. => false
 | .DictComp .. => false
 | _ => true
noncomputable def noLComp : Expr → Bool
 | .ListComp .. => false
 | .SetComp .. => false
 | .DictComp .. => false
 | _ => true
theorem blockKind_function {env : Env} {sc : Sc} (cs : Cs env sc) : env.blockKind = .function := by
 unfold Env.blockKind; rw [cs.kind]; rfl
theorem swb_ok {env : Env} {sc : Sc} (cs : Cs env sc) {value : Expr} {id : Str} {p : Pos} {line : Nat} (h : noComp value = true) : swapsWith value (some (.Name id p)) line env = pure (swb sc value (.Name id p)) := by
 cases value <;> try rfl
 ·unfold swapsWith swb
  rw [blockKind_function cs]
  unfold Env.kindOf
  rw [cs.names]
  first | rfl | simp [Expr.pos]
 ·cases h
 ·cases h
theorem swapSole_tuple {env : Env} {value : Expr} {ts : List Expr} {k : Nat} {p : Pos} {line : Nat} : swapsWithSole [.Tuple ts k p] value line env = pure false := by
 cases value <;> rfl
noncomputable def swp (sc : Sc) (ts : List Expr) (value : Expr) : Option (Option (List Str)) := match value with
 | .Tuple vs _ _ =>
  if (!(ts.length == 2 || ts.length == 3) || vs.length != ts.length) = true then some none
  else if (vs.any fun | .Starred .. => true | _ => false) = true then some none
  else if ((ts.filterMap fun
    | .Name id pos => if (sc.names.lookup id == some NameKind.local && pos.line == (ts.head?.map (·.pos.line)).getD 0) = true then some id else none
    | _ => none).length != ts.length || (ts.filterMap fun
    | .Name id pos => if (sc.names.lookup id == some NameKind.local && pos.line == (ts.head?.map (·.pos.line)).getD 0) = true then some id else none
    | _ => none).eraseDups.length != (ts.filterMap fun
    | .Name id pos => if (sc.names.lookup id == some NameKind.local && pos.line == (ts.head?.map (·.pos.line)).getD 0) = true then some id else none
    | _ => none).length) = true then some none
  else if (vs.all (foldedForSure 8)) = true then some none
  else if (vs.all (constantsAlone 8)) = true then none
  else some (some (ts.filterMap fun
    | .Name id pos => if (sc.names.lookup id == some NameKind.local && pos.line == (ts.head?.map (·.pos.line)).getD 0) = true then some id else none
    | _ => none))
 | _ => some none
theorem swp_ok {env : Env} {sc : Sc} (cs : Cs env sc) {ts : List Expr} {value : Expr} {k : Nat} {p : Pos} {r : Option (List Str)} (h : swp sc ts value = some r) : swappedStores [.Tuple ts k p] value env = pure r := by
 cases value <;> try (unfold swp at h; cases h; rfl)
 rename_i vs k' p'
 unfold swp at h
 unfold swappedStores
 rw [blockKind_function cs]
 unfold Env.kindOf
 rw [cs.names]
 dsimp only at h ⊢
 split at h
 ·rename_i q
  cases h
  simp only [bne_self_eq_false, Bool.or_false]
  rw [if_pos q]
 ·rename_i q
  simp only [bne_self_eq_false, Bool.or_false]
  rw [if_neg q]
  split at h
  ·rename_i q; cases h
   exact if_pos q
  ·rename_i q
   refine (if_neg q).trans ?_
   split at h
   ·rename_i q; cases h; exact if_pos q
   ·rename_i q
    refine (if_neg q).trans ?_
    split at h
    ·rename_i q; cases h; exact if_pos q
    ·rename_i q
     refine (if_neg q).trans ?_
     split at h
     ·cases h
     ·rename_i q
      cases h
      first
       | exact (if_neg q)
       | (refine (if_neg q).trans ?_; rfl)
end Holk
namespace Holk
open PySem PyProof.Rows
section
variable {W : Wd} {F : Fx} {Φ Φ' : Fz} {ρ ρ' : List Addr} {σ σ' : Store} {fr fr' : Frame} {h h' : Heap} {s : Shared} {A : Around} {n : Nat} {C : CallT}
theorem SS.other (S : SS W F Φ ρ σ fr h) {T : Addr} (hT : T ≠ F.env.locals ∧ (∀ x, F.env.cells.lookup x ≠ some T) ∧ T ∉ ρ ∧ T ∉ frs F.l) (hΦ : Φ T = none) (hn : F.hs.get? T = none) (k : ∀ a o, a ≠ T → h.get? a = some o → h'.get? a = some o) : SS W F Φ ρ σ fr h' := by
 have D := Dy.other (sc := F.sc) hT S.dy hΦ k
 exact ⟨⟨D.inv, D.stk, S.se.st.besides hn k, S.se.pre⟩, D.frm, S.own⟩
theorem SS.len (S : SS W F Φ ρ σ fr h) : fr.length = F.sc.vars.length := S.frm.len
theorem bind_ok (cs : Cs F.env F.sc) (S : SS W F Φ ρ σ fr s.heap) {i : Nat} {id : Str} {u : Value} {v : V} (hv : F.sc.isVar i id = true) (r : VR Φ ρ u v) {Q : Unit → Shared → Prop} {E : Value → Shared → Prop}
  (hQ : ∀ h' k, SS W F Φ ρ σ (fr.set i (some v)) h' → Kp (own F.env) (frs F.l) s.heap h' → Q () { s with heap := h', toks := k }) : wpAny (model W.prog W.w) A (storeName F.env id u) Q E s := by
 obtain ⟨hx, _⟩ := Sc.isVar_iff hv
 have hc := cov_own (sc := F.sc) (env := F.env) i id hx
 exact store_okK cs S.dy hx r hc.1 hc.2 fun h' k D K => hQ h' k (S.store D K) K
theorem isVar_lt (S : SS W F Φ ρ σ fr h) {i : Nat} {id : Str} (hv : F.sc.isVar i id = true) : i < fr.length := by
 obtain ⟨hx, _⟩ := Sc.isVar_iff hv
 rw [S.len]
 exact (List.getElem?_eq_some_iff.mp hx).1
theorem assignN_okS {sc : Sc} {i : Nat} {x : E} {id : Str} {px pos : Pos} {value : Expr} (hv : sc.isVar i id = true) (hn : noComp value = true) (hw : swb sc value (.Name id px) = false) (hx : OkE W n C sc x value) : OkS W n C sc (.assign (.var i) x) (.Assign [.Name id px] value pos) := by
 intro A F s Φ ρ σ fr hF cx S
 subst hF
 rw [exx_assign]
 refine SimS.of (fun Q E h => wpAny_Assign_Name h (by rw [swb_ok cx.cs hn, hw])) (SimS.val (P2 := fun v Q E s₁ => wpAny (model W.prog W.w) A (storeName F.env id v) (fun _ => Q .next) E s₁) S (hx cx S.dy) fun u v σ' Φ' h' k e S' r => ?_)
 refine SimS.opt fun fr' ha => ?_
 simp only [Z77, Z78, setO_is, Option.ite_none_right_eq_some] at ha
 obtain ⟨_, ha⟩ := ha; cases ha
 exact SimS.next fun Q E hQ => bind_ok (s := { s with heap := h', toks := k }) cx.cs S' hv r fun h'' k' S'' K => hQ Φ' ρ h'' k' S'' (.bind K)
theorem tgAll_all (t : Tg) : tgAll (fun _ => true) t = true := by
 induction t using Tg.rec (motive_2 := fun ts => tgsAll (fun _ => true) ts = true) with
 | var i => rfl
 | tup ts ih => (first | rw [Z136] | rw [Z137]); exact ih
 | nil => rfl
 | cons t ts h1 h2 => ((first | rewrite [Z134] | rewrite [Z135]); rw [h1, h2]); rfl
theorem assignT_okS {sc : Sc} {ts : List Tg} {x : E} {es : List Expr} {k0 : Nat} {px pos : Pos} {value : Expr} (ht : ckT sc (.tup ts) (.Tuple es k0 px) = true) (hw : swp sc es value = some none) (hx : OkE W n C sc x value) : OkS W n C sc (.assign (.tup ts) x) (.Assign [.Tuple es k0 px] value pos) := by
 intro A F s Φ ρ σ fr hF cx S
 subst hF
 rw [exx_assign]
 refine SimS.of (fun Q E h => Assign_Tuple h swapSole_tuple (swp_ok cx.cs hw)) (SimS.val (P2 := fun v Q E s₁ => wpAny (model W.prog W.w) A (assign (.Tuple es k0 px) F.env v) (fun _ => Q .next) E s₁) S (hx cx S.dy) fun u v σ' Φ' h' k e S' r => ?_)
 refine SimS.opt fun fr' ha => SimS.next fun Q E hQ => ?_
 exact asg_ok (.tup ts) _ ht (s := { s with heap := h', toks := k }) (fun _ => true) cx S'.dy (tgAll_all _) (fun i _ => cov_own i) r ha fun h'' k' D K => hQ Φ' ρ h'' k' (S'.store D K) (.bind K)
theorem swap2_okS {sc : Sc} {i j : Nat} {x : E} {id₁ id₂ : Str} {es : List Expr} {k0 : Nat} {px pos : Pos} {value : Expr} (hi : sc.isVar i id₁ = true) (hj : sc.isVar j id₂ = true) (hij : i ≠ j) (hw : swp sc es value = some (some [id₁, id₂])) (hx : OkE W n C sc x value) :
  OkS W n C sc (.assign (.tup [.var i, .var j]) x) (.Assign [.Tuple es k0 px] value pos) := by
 intro A F s Φ ρ σ fr hF cx S
 subst hF
 rw [exx_assign]
 refine SimS.of (fun Q E h => Assign_Tuple_swapped h swapSole_tuple (swp_ok cx.cs hw)) (SimS.val (P2 := fun v Q E s₁ => wpAny (model W.prog W.w) A (unpackItems v [id₁, id₂].length none) (fun items s₂ =>
   wpAny (model W.prog W.w) A (assignInOrder ([id₁, id₂].reverse.map fun n => bindName F.env n) items.reverse) (fun _ => Q .next) E s₂) E s₁) S (hx cx S.dy) fun u v σ' Φ' h' k e S' r => ?_)
 refine SimS.opt fun fr' ha => SimS.next fun Q E hQ => ?_
 (first | rw [Z77] at ha | rw [Z78] at ha)
 split at ha
 ·rename_i xs hxs
  obtain ⟨a, vs, m, rfl, hg, rs⟩ := (S'.dy.inv.deref r hxs).tuple S'.dy.inv.frz
  cases rs with
  | nil => simp [asgs] at ha
  | cons r1 rs =>
  cases rs with
  | nil => rw [asgs] at ha; split at ha <;> simp [asgs] at ha
  | cons r2 rs =>
  cases rs with
  | cons => simp only [asgs] at ha; split at ha <;> (try split at ha) <;> simp at ha
  | nil =>
   rename_i v1 x1 v2 x2
   simp only [asgs, Z77, Z78, setO_is, isVar_lt S' hi, if_true, List.length_set, isVar_lt S' hj] at ha
   cases ha
   refine wpAny_unpackItems_tuple (s := { s with heap := h', toks := k }) (items := #[v1, v2]) cx.handled ⟨_, hg, rfl, m, rfl⟩ fun h₁ hk => ?_
   have hk' : ∀ b o, h'.get? b = some o → h₁.get? b = some o := fun b o q => hk b o (Nat.ne_of_lt (Heap.lt_size q)) q
   have S₁ := S'.step (Step.of_ext hk') (S'.dy.inv.ext hk')
   show wpAny _ A (do holding [v1] (bindName F.env id₂ v2); holding [] (bindName F.env id₁ v1); pure ()) _ E _
   refine wpAny_bind (wpAny_holding (wpAny_bindName (bind_ok (s := { s with heap := h₁, toks := k }) cx.cs S₁ hj (v := .d x2) r2 fun h₂ k₂ S₂ K₂ => ?_)))
   refine wpAny_bind (wpAny_holding (wpAny_bindName (bind_ok (s := { s with heap := h₂, toks := k₂ }) cx.cs S₂ hi (v := .d x1) r1 fun h₃ k₃ S₃ K₃ => wpAny_pure ?_)))
   rw [List.set_comm _ _ (Ne.symm hij)] at S₃
   exact hQ Φ' ρ h₃ k₃ S₃ ((Mv.step (Step.of_ext hk')).trans ((Mv.bind K₂).trans (Mv.bind K₃)))
 ·cases ha
theorem asgs_lenT {σ : Store} : ∀ {ts : List Tg} {xs : List PyData} {fr fr' : Frame}, asgs σ ts xs fr = some fr' → ts.length = xs.length
 | [], [], _, _, _ => rfl
 | [], _ :: _, _, _, h => nomatch h
 | _ :: _, [], _, _, h => nomatch h
 | t :: ts, x :: xs, fr, fr', h => by
  cases q : asg σ t (.d x) fr with
  | none => rw [show asgs σ (t :: ts) (x :: xs) fr = (match asg σ t (.d x) fr with | some fr' => asgs σ ts xs fr' | none => none) from rfl, q] at h; cases h
  | some f => rw [show asgs σ (t :: ts) (x :: xs) fr = (match asg σ t (.d x) fr with | some fr' => asgs σ ts xs fr' | none => none) from rfl, q] at h; exact congrArg (· + 1) (asgs_lenT h)
theorem rds3 {Φ : Fz} {vs : List Value} {xs : List PyData} (h : xs.length = 3) (r : RDs Φ vs xs) : ∃ x1 x2 x3 v1 v2 v3, vs = [v1, v2, v3] ∧ xs = [x1, x2, x3] ∧ RD Φ v1 x1 ∧ RD Φ v2 x2 ∧ RD Φ v3 x3 := by
 cases r with
 | nil => cases h
 | cons r1 r => cases r with
  | nil => cases h
  | cons r2 r => cases r with
   | nil => cases h
   | cons r3 r => cases r with
    | nil => exact ⟨_, _, _, _, _, _, rfl, rfl, r1, r2, r3⟩
    | cons => cases h
theorem swap3_okS {sc : Sc} {i j l : Nat} {x : E} {id₁ id₂ id₃ : Str} {es : List Expr} {k0 : Nat} {px pos : Pos} {value : Expr} (hi : sc.isVar i id₁ = true) (hj : sc.isVar j id₂ = true) (hl : sc.isVar l id₃ = true) (hij : i ≠ j) (hil : i ≠ l) (hjl : j ≠ l) (hw : swp sc es value = some (some [id₁, id₂, id₃])) (hx : OkE W n C sc x value) :
  OkS W n C sc (.assign (.tup [.var i, .var j, .var l]) x) (.Assign [.Tuple es k0 px] value pos) := by
 intro A F s Φ ρ σ fr hF cx S
 subst hF
 rw [exx_assign]
 refine SimS.of (fun Q E h => Assign_Tuple_swapped h swapSole_tuple (swp_ok cx.cs hw)) (SimS.val (P2 := fun v Q E s₁ => wpAny (model W.prog W.w) A (unpackItems v [id₁, id₂, id₃].length none) (fun items s₂ =>
   wpAny (model W.prog W.w) A (assignInOrder ([id₁, id₂, id₃].reverse.map fun n => bindName F.env n) items.reverse) (fun _ => Q .next) E s₂) E s₁) S (hx cx S.dy) fun u v σ' Φ' h' k e S' r => ?_)
 refine SimS.opt fun fr' ha => SimS.next fun Q E hQ => ?_
 (first | rw [Z77] at ha | rw [Z78] at ha)
 split at ha
 ·rename_i xs hxs
  obtain ⟨a, vs, m, rfl, hg, rs⟩ := (S'.dy.inv.deref r hxs).tuple S'.dy.inv.frz
  have hlen : xs.length = 3 := (asgs_lenT ha).symm
  obtain ⟨x1, x2, x3, v1, v2, v3, rfl, rfl, r1, r2, r3⟩ := rds3 hlen rs
  ·skip
   simp only [asgs, Z77, Z78, setO_is, isVar_lt S' hi, if_true, List.length_set, isVar_lt S' hj, isVar_lt S' hl] at ha
   cases ha
   refine wpAny_unpackItems_tuple (s := { s with heap := h', toks := k }) (items := #[v1, v2, v3]) cx.handled ⟨_, hg, rfl, m, rfl⟩ fun h₁ hk => ?_
   have hk' : ∀ b o, h'.get? b = some o → h₁.get? b = some o := fun b o q => hk b o (Nat.ne_of_lt (Heap.lt_size q)) q
   have S₁ := S'.step (Step.of_ext hk') (S'.dy.inv.ext hk')
   show wpAny _ A (do holding [v2, v1] (bindName F.env id₃ v3); holding [v1] (bindName F.env id₂ v2); holding [] (bindName F.env id₁ v1); pure ()) _ E _
   refine wpAny_bind (wpAny_holding (wpAny_bindName (bind_ok (s := { s with heap := h₁, toks := k }) cx.cs S₁ hl (v := .d x3) r3 fun h₂ k₂ S₂ K₂ => ?_)))
   refine wpAny_bind (wpAny_holding (wpAny_bindName (bind_ok (s := { s with heap := h₂, toks := k₂ }) cx.cs S₂ hj (v := .d x2) r2 fun h₃ k₃ S₃ K₃ => ?_)))
   refine wpAny_bind (wpAny_holding (wpAny_bindName (bind_ok (s := { s with heap := h₃, toks := k₃ }) cx.cs S₃ hi (v := .d x1) r1 fun h₄ k₄ S₄ K₄ => wpAny_pure ?_)))
   rw [List.set_comm _ _ (Ne.symm hij), List.set_comm _ _ (Ne.symm hil), List.set_comm _ _ (Ne.symm hjl)] at S₄
   exact hQ Φ' ρ h₄ k₄ S₄ ((Mv.step (Step.of_ext hk')).trans ((Mv.bind K₂).trans ((Mv.bind K₃).trans (Mv.bind K₄))))
 ·cases ha
end
end Holk
namespace Holk
open PySem PyProof.Rows
section
variable {W : Wd} {F : Fx} {Φ Φ' : Fz} {ρ ρ' : List Addr} {σ σ' : Store} {fr fr' : Frame} {h h' : Heap} {s : Shared} {A : Around} {n : Nat} {C : CallT}
theorem Res.bind_then {α β : Type} (R : Res α) (g : α → Store → Res β) (k : β → Store → XR) : (R.bind g).then k = R.then fun a σ => (g a σ).then k := by cases R <;> rfl
theorem SE.gone (S : SE W F Φ ρ σ h) {a : Addr} (ha : h.get? a = none) : F.hs.get? a = none := by
 cases e : F.hs.get? a with
 | none => rfl
 | some o => obtain ⟨o', e'⟩ := S.st.kp.alive a o e; rw [ha] at e'; cases e'
theorem assignC_okS {sc : Sc} {scope : Scope} {ifs : List E} {elt it : E} {t : Tg} {ies : List Expr} {ee te ie : Expr} {pos spos px : Pos} {i : Nat} {id : Str} (hv : sc.isVar i id = true) (hw : swb sc (.ListComp ee [⟨te, ie, ies, 0⟩] scope pos) (.Name id px) = true)
  (hck : ckScope sc scope = true) (hset : notSet ie = true) (hit : OkE W n C sc it ie)
  (hi : OkIfs W n C (compSc sc scope) ifs ies) (he : OkE W n C (compSc sc scope) elt ee) (ht : ckT (compSc sc scope) t te = true) (htl : tgAll (compLoc (compSc sc scope)) t = true) :
  OkS W n C sc (.assign (.var i) (.comp scope.names.length elt t it ifs)) (.Assign [.Name id px] (.ListComp ee [⟨te, ie, ies, 0⟩] scope pos) spos) := by
 intro A F s Φ ρ σ fr hF cx S
 subst hF
 have hsc := ckScope_iff hck
 obtain ⟨cl, hclos, hcl, hcf⟩ := closure_ok (env := F.env) (comp_free cx S.dy hsc)
 rw [exx_assign, evx_comp, Res.bind_then]
 refine SimS.of (P' := fun Q E s => wpAny (model W.prog W.w) A (eval ie F.env) (fun x s₁ => wpAny (model W.prog W.w) A (pyIter x) (fun it s₂ => wpAny (model W.prog W.w) A (newList []) (fun acc s₃ =>
   wpAny (model W.prog W.w) A (newFunctionEnv scope F.env.globals cl [] F.env.qual none .none (some F.env)) (fun cenv s₄ =>
    codeAny (model W.prog W.w) A (.compStart (.ListComp ee [⟨te, ie, ies, 0⟩] scope pos) 0 it acc { cenv with scope := relabel scope F.env }) (compPost (model W.prog W.w) A E (some (assign (.Name id px) F.env)) (fun _ s' => Q .next s') acc cenv.locals) s₄) E s₃) E s₂) E s₁) E s) (fun Q E h => ?_) ?_
 ·rw [exec_Assign_Name_used _ _ _ _ (by rw [swb_ok cx.cs rfl, hw])]
  refine wpAny_bind (wpAny_standAt (wpAny_bind ?_))
  show wpAny _ A (do let _ ← comprehension (.ListComp ee [⟨te, ie, ies, 0⟩] scope pos) scope F.env _ (newList []) false (eval ie F.env) (some (assign (.Name id px) F.env))) _ _ s
  exact wpAny_bind (wpAny_mono (wpAny_comprehension_free (use := some (assign (.Name id px) F.env)) (Q := fun _ s' => Q .next s') rfl (fun x => folded_plain hset x) hclos hsc.kind (fun x hx hl => nodup_lookup hsc.nodup (by rw [← hl]; exact hx)) h)
   (fun _ s' hq => wpAny_pure (wpAny_pure hq)) fun _ _ e => e)
 ·refine SimS.val (P2 := fun x Q E s₁ => wpAny (model W.prog W.w) A (pyIter x) (fun it s₂ => wpAny (model W.prog W.w) A (newList []) (fun acc s₃ =>
   wpAny (model W.prog W.w) A (newFunctionEnv scope F.env.globals cl [] F.env.qual none .none (some F.env)) (fun cenv s₄ =>
    codeAny (model W.prog W.w) A (.compStart (.ListComp ee [⟨te, ie, ies, 0⟩] scope pos) 0 it acc { cenv with scope := relabel scope F.env }) (compPost (model W.prog W.w) A E (some (assign (.Name id px) F.env)) (fun _ s' => Q .next s') acc cenv.locals) s₄) E s₃) E s₂) E s₁) S (hit cx S.dy) fun u x σ₁ Φ₁ h₁ k₁ e₁ S₁ r₁ => ?_
  have D₁ := S₁.dy
  cases x with
  | loc => exact .stuck
  | d x =>
  dsimp only
  cases hx : itemsOf x with
  | none => exact .stuck
  | some items =>
  simp only [Res.of_some, Res.bind_ok]
  by_cases hlen : items.length ≤ lim
  ·rw [if_pos hlen]
   intro Q E hns h2 h3 h4
   have hlt := isVar_lt S hv
   refine comp_run (s := { s with heap := h₁, toks := k₁ }) (C := C) (ifs := ifs) (elt := elt) (t := t) cx hsc hcl hcf hi he ht htl D₁ r₁ hx hlen ?_ ?_ ?_
   ·intro q
    refine hns ?_
    show ((compItems (compF W.G C t ifs elt (fr ++ List.replicate scope.names.length none)) items σ₁).bind _).then _ = _
    rw [q]; rfl
   ·intro Dd Cc ys σ' Φ' h' k e' hD hC hne D' St' c1 c2 c3 ⟨ds, m, hd, rd⟩
    have aC := D₁.apart hC c1
    obtain ⟨I'', St'', ho⟩ := D₁.freezeAt D' St' hD c2 hC c1 hne hd (Heap.SameBut.refl ..) c3
    have hext : ∀ a o, Φ' a = some o → (Φ'.add Dd (lstO ds m)) a = some o := fun a o q => by
     have : a ≠ Dd := by rintro rfl; rw [c2] at q; cases q
     simp [Fz.add, this, q]
    have S₂ := S₁.step St'' I''
    show wpAny _ A (assign (.Name id px) F.env (.ref Dd)) _ _ _
    refine wpAny_assign_Name (bind_ok (s := { s with heap := h', toks := k }) cx.cs S₂ hv (v := .d (.list ys)) (RD.list (Fz.add_self ..) (rd.mono hext)) fun h₃ k₃ S₃ K₃ => ?_)
    obtain ⟨mc, hmc⟩ := c3
    have hnotown : ¬ own F.env Cc := fun q => by rcases q with q | ⟨y, q⟩; exact aC.1 q; exact aC.2.1 y q
    refine ⟨mc, ns_slots hmc fun o q => K₃.slots _ _ hnotown q, fun h₄ hsb => ?_⟩
    have S₄ := S₃.other ⟨aC.1, aC.2.1, aC.2.2.1, aC.2.2.2.1⟩ (by simp [Fz.add, Ne.symm hne, c1]) (S₁.se.gone hC) fun a o hne' q => (hsb.2 a hne').trans q
    refine h2 _ σ' _ ρ h₄ k₃ ?_ S₄ (((Mv.step St'').trans (Mv.bind K₃)).other hC fun a o hne' q => (hsb.2 a hne').trans q)
    show ((compItems (compF W.G C t ifs elt (fr ++ List.replicate scope.names.length none)) items σ₁).bind _).then _ = _
    rw [e']
    simp only [Res.bind_ok, Res.then_ok, Z77, Z78, setO_is, hlt, if_true, Res.of_some]
   ·intro Dd Cc e σ' Φ' h' k e' hC D' St' c1 c2 T'
    refine ⟨_, c2.choose_spec, fun h'' hsb cenv _ => ?_⟩
    have aC := D₁.apart hC c1
    have D'' : Dy W Φ' ρ σ' F.l F.env F.sc.vars fr h'' := D'.other ⟨aC.1, aC.2.1, aC.2.2.1, aC.2.2.2.1⟩ c1 fun a o hne q => (hsb.2 a hne).trans q
    have St'' := St'.besides hC fun a o hne q => (hsb.2 a hne).trans q
    refine pass_ok (s := { s with heap := h'', toks := k }) (h := h₁) D''.inv D''.stk St''.kp (T'.sameBut hsb c2) fun h₃ I₃ K₃ T₃ => ?_
    refine h4 e σ' Φ' ρ h₃ k ?_ (S₁.se.step ⟨St''.ext, St''.fresh, K₃⟩ I₃) (T₃.back S₁.se.st.kp.alive)
    show ((compItems (compF W.G C t ifs elt (fr ++ List.replicate scope.names.length none)) items σ₁).bind _).then _ = _
    rw [e']; rfl
  ·rw [if_neg hlen]; exact .stuck
theorem VR.more {a : Addr} {u : Value} : ∀ {v : V}, VR Φ ρ u v → VR Φ (ρ ++ [a]) u v
 | .d _, r => r
 | .loc n, ⟨b, hb, e⟩ => ⟨b, by rw [List.getElem?_append_left (List.getElem?_eq_some_iff.mp hb).1]; exact hb, e⟩
theorem SS.newCell (S : SS W F Φ ρ σ fr h) (k : ∀ a o, h.get? a = some o → h'.get? a = some o) {a : Addr} {c : Cell} (ha : h.get? a = none) (hc : CellAt W Φ h' a c) : SS W F Φ (ρ ++ [a]) (σ ++ [c]) fr h' := by
 have D := S.dy
 have hn : a ∉ ρ := fun q => by obtain ⟨o, e⟩ := D.inv.live q; rw [ha] at e; cases e
 have S' := S.step (Step.of_ext k) (D.inv.ext k)
 have ne : ∀ b o, h.get? b = some o → b ≠ a := fun b o e q => by rw [q, ha] at e; cases e
 refine ⟨⟨⟨S'.se.inv.base, S'.se.inv.frz, by simp [D.inv.len], fun i b x h1 h2 => ?_, ?_, fun b hb => ?_⟩, fun env he => ?_, S'.se.st, ?_⟩, ⟨S'.frm.ns, S'.frm.lfz, ?_, fun x b hb => ?_, S'.frm.inj, fun i x hx => ?_, S'.frm.nodup, S'.frm.len⟩, S.own⟩
 ·by_cases hi : i < ρ.length
  ·rw [List.getElem?_append_left hi] at h1
   rw [List.getElem?_append_left (by rw [← D.inv.len]; exact hi)] at h2
   exact S'.se.inv.cell i b x h1 h2
  ·rw [List.getElem?_append_right (by lia)] at h1
   rw [List.getElem?_append_right (by rw [← D.inv.len]; lia), ← D.inv.len] at h2
   have h0 : i - ρ.length = 0 := by
    rcases Nat.eq_zero_or_pos (i - ρ.length) with q | q
    ·exact q
    ·rw [List.getElem?_eq_none (by simp; lia)] at h1; cases h1
   rw [h0] at h1 h2
   simp at h1 h2
   subst h1; subst h2; exact hc
 ·rw [List.nodup_append]
  exact ⟨D.inv.nodup, by simp, fun b hb c hc => by simp at hc; subst hc; rintro rfl; exact hn hb⟩
 ·rcases List.mem_append.mp hb with q | q
  ·exact S'.se.inv.apart b q
  ·simp at q; subst q; exact D.inv.unfrozen ha
 ·obtain ⟨k', L', o, p1, p2, p3, p4, p5⟩ := S'.se.stk env he
  obtain ⟨_, L₀, o₀, q1, q2, _⟩ := S.se.stk env he
  rw [p1] at q1; cases q1
  exact ⟨k', L', o, p1, p2, p3, p4, fun q => by rcases List.mem_append.mp q with q | q; exact p5 q; simp at q; exact ne _ _ q2 q⟩
 ·obtain ⟨r, hr, hh⟩ := S.se.pre
  refine ⟨r ++ [a], by rw [hr]; simp, fun b hb => ?_⟩
  rcases List.mem_append.mp hb with q | q
  ·exact hh b q
  ·simp at q; subst q; exact S.se.gone ha
 ·obtain ⟨m, o, _, _, e, _⟩ := S.frm.ns
  intro q
  rcases List.mem_append.mp q with q | q
  ·exact S'.frm.lout q
  ·simp at q; exact ne _ _ e q
 ·obtain ⟨a1, a2, a3, a4⟩ := S'.frm.cell x b hb
  obtain ⟨⟨ov, o, e, _⟩, _⟩ := S.frm.cell x b hb
  exact ⟨a1, a2, fun q => by rcases List.mem_append.mp q with q | q; exact a3 q; simp at q; exact ne _ _ e q, a4⟩
 ·obtain ⟨ov, hh, hr⟩ := S'.frm.val i x hx
  exact ⟨ov, hh, fun v hv => let ⟨u, e, r⟩ := hr v hv; ⟨u, e, r.more⟩⟩
theorem new_loc (S : SS W F Φ ρ σ fr h) (a : Addr) : VR Φ (ρ ++ [a]) (.ref a) (.loc σ.length) := ⟨a, by rw [← S.se.inv.len]; simp, rfl⟩
theorem Inv.setCell (I : Inv W Φ ρ σ h) {i : Nat} {a : Addr} {c : Cell} (ha : ρ[i]? = some a) (hs : Heap.SameBut a h h') (hc : CellAt W Φ h' a c) : Inv W Φ ρ (σ.set i c) h' := by
 have hm : a ∈ ρ := List.mem_of_getElem? ha
 refine ⟨I.base, fun b o e => (hs.2 b fun q => by rw [q, I.apart a hm] at e; cases e).trans (I.frz b o e), by simp [I.len], fun j b x h1 h2 => ?_, I.nodup, I.apart⟩
 by_cases hj : j = i
 ·subst hj
  rw [ha] at h1; cases h1
  rw [List.getElem?_set_self'] at h2
  cases q : σ[j]? with
  | none => rw [q] at h2; cases h2
  | some y => rw [q] at h2; simp at h2; subst h2; exact hc
 ·rw [List.getElem?_set_ne (Ne.symm hj)] at h2
  have : b ≠ a := by
   rintro rfl
   exact hj ((List.getElem?_inj (List.getElem?_eq_some_iff.mp h1).1 I.nodup).mp (h1.trans ha.symm))
  exact (I.cell j b x h1 h2).mono (fun _ _ q => q) fun o q => (hs.2 b this).trans q
theorem SS.setCell (S : SS W F Φ ρ σ fr h) {i : Nat} {a : Addr} {c : Cell} (ha : ρ[i]? = some a) (hs : Heap.SameBut a h h') (hc : CellAt W Φ h' a c) : SS W F Φ ρ (σ.set i c) fr h' :=
 S.step ⟨fun _ _ e => e, fun _ _ _ => rfl, .sameBut hs (.inl (List.mem_of_getElem? ha)) hc.alive⟩ (S.se.inv.setCell ha hs hc)
end
end Holk
namespace Holk
open PySem PyProof.Rows
section
variable {W : Wd} {F : Fx} {Φ Φ' : Fz} {ρ ρ' : List Addr} {σ σ' : Store} {fr fr' : Frame} {h h' : Heap} {s : Shared} {A : Around} {n : Nat} {C : CallT}
theorem SimS.valx {α β : Type} {t : Sem α} {R : Res β} {Rel : Fz → α → β → Prop} {P2 : α → (Flow → Shared → Prop) → (Value → Shared → Prop) → Shared → Prop} {g : β → Store → XR} (S : SS W F Φ ρ σ fr s.heap)
  (H : Sim W A F.l F.L ρ t Φ s R Rel) (H2 : ∀ a b σ' Φ' h' k, R = .ok b σ' → SS W F Φ' ρ σ' fr h' → Step ρ (frs F.l) Φ s.heap Φ' h' → Rel Φ' a b → SimS W F (P2 a) Φ' ρ { s with heap := h', toks := k } (g b σ')) :
  SimS W F (fun Q E s => wpAny (model W.prog W.w) A t (fun a s' => P2 a Q E s') E s) Φ ρ s (R.then g) := by
 intro Q E h1 h2 h3 h4
 refine H _ _ (fun q => h1 (by rw [q]; rfl)) (fun a b σ' Φ' h' k e I St r => ?_) fun x σ' Φ' h' k e I St T => h4 x σ' Φ' ρ h' k (by rw [e]; rfl) (S.se.step St I) (T.back S.se.st.kp.alive)
 subst e
 exact H2 a b σ' Φ' h' k rfl (S.step St I) St r Q E h1 (fun fr' σ'' Φ'' ρ'' h'' k'' e S' M => h2 fr' σ'' Φ'' ρ'' h'' k'' e S' ((Mv.step St).trans M)) (fun u v σ'' Φ'' ρ'' h'' k'' e => h3 u v σ'' Φ'' ρ'' h'' k'' e) fun x σ'' Φ'' ρ'' h'' k'' e => h4 x σ'' Φ'' ρ'' h'' k'' e
theorem Mv.set {a : Addr} {i : Nat} (ha : ρ[i]? = some a) (hs : Heap.SameBut a h h') (hl : ∃ o, h'.get? a = some o) : Mv F Φ ρ h Φ ρ h' :=
 Mv.step ⟨fun _ _ e => e, fun _ _ _ => rfl, .sameBut hs (.inl (List.mem_of_getElem? ha)) hl⟩
theorem newl_okS {sc : Sc} {i : Nat} {xs : List E} {es : List Expr} {id : Str} {px lp pos : Pos} (hv : sc.isVar i id = true) (hl : xs.length ≤ 1000) (hs : OkEs W n C sc xs es) : OkS W n C sc (.newl i xs) (.Assign [.Name id px] (.List es lp) pos) := by
 intro A F s Φ ρ σ fr hF cx S
 subst hF
 rw [exx_newl]
 have hlt := isVar_lt S hv
 refine SimS.of (fun Q E h => wpAny_Assign_Name (wpAny_List h) (by rfl)) (SimS.val S (hs lp cx S.dy) fun vs ys σ' Φ' h' k e S' r => ?_)
 refine SimS.opt fun ds hd => ?_
 rw [if_pos hlt]
 refine SimS.next fun Q E hQ => ?_
 have hlen := evEs_length e
 have := r.length
 refine ⟨by rw [sizeLine_is]; lia, ?_⟩
 have S'' := S'.newCell (c := .lst ds) (push_keep h' (lstO vs 0)) (Heap.get?_size _) ⟨vs, 0, Heap.get?_push_size h' (o := lstO vs 0) rfl, r.allD hd⟩
 exact bind_ok (s := { s with heap := h'.push (lstO vs 0), toks := k }) cx.cs S'' hv (new_loc S' _) fun h₃ k₃ S₃ K₃ => hQ Φ' _ h₃ k₃ S₃ ((Mv.cell (push_keep h' _) (Heap.get?_size _)).trans (.bind K₃))
theorem newOf_okS (B : Base W) {sc : Sc} {i : Nat} {a : E} {x : Expr} {id fn : Str} {px fp cp pos : Pos} (hv : sc.isVar i id = true) (hg : sc.isGlob fn = true) (hfn : fn = ("list" : Str)) (hst : notStar x = true) (ha : OkE W n C sc a x) :
  OkS W n C sc (.newOf i a) (.Assign [.Name id px] (.Call (.Name fn fp) [x] [] cp) pos) := by
 intro A F s Φ ρ σ fr hF cx S
 subst hF
 subst hfn
 obtain ⟨hv', hd'⟩ := Sc.isGlob_iff hg
 rw [exx_newOf]
 have hlt := isVar_lt S hv
 refine SimS.of (fun Q E h => wpAny_Assign_Name (eval_Call_any (builtin_ok B cx S.dy.inv hv' B.list.1 B.list.2 hd' (by rw [back_one hst]; exact call1_type h))) (by rfl)) (SimS.val (P2 := fun v Q E s₁ => wpAny (model W.prog W.w) A (call (.type "list") [v]) (fun v s₁ => wpAny (model W.prog W.w) A (storeName F.env id v) (fun _ => Q .next) E s₁) E s₁) S (ha cx S.dy) fun u v σ' Φ' h' k e S' r => ?_)
 refine SimS.opt fun d hd => SimS.opt fun ds hds => SimS.ite (fun hl => SimS.next fun Q E hQ => ?_) fun _ => .stuck
 refine list_copy (s := { s with heap := h', toks := k }) (l := F.l) (h' := h') (k := 0) S'.dy.inv (S'.dy.inv.deref r hd) hds hl.2 fun h₁ vs m hk ho rs => ?_
 have S'' := S'.newCell (c := .lst ds) hk (Heap.get?_size _) ⟨vs, m, ho, rs⟩
 exact bind_ok (s := { s with heap := h₁, toks := k }) cx.cs S'' hv (new_loc S' _) fun h₃ k₃ S₃ K₃ => hQ Φ' _ h₃ k₃ S₃ ((Mv.cell hk (Heap.get?_size _)).trans (.bind K₃))
theorem newd_okS {sc : Sc} {i : Nat} {id : Str} {px dp pos : Pos} (hv : sc.isVar i id = true) : OkS W n C sc (.newd i) (.Assign [.Name id px] (.Dict [] [] dp) pos) := by
 intro A F s Φ ρ σ fr hF cx S
 subst hF
 (first | rw [exx_assign, if_pos (isVar_lt S hv)] | rw [exx_newl, if_pos (isVar_lt S hv)] | rw [exx_newOf, if_pos (isVar_lt S hv)] | rw [exx_newd, if_pos (isVar_lt S hv)] | rw [exx_setd, if_pos (isVar_lt S hv)] | rw [exx_app, if_pos (isVar_lt S hv)] | rw [exx_expr, if_pos (isVar_lt S hv)] | rw [exx_ite, if_pos (isVar_lt S hv)] | rw [exx_whil, if_pos (isVar_lt S hv)] | rw [exx_fors, if_pos (isVar_lt S hv)] | rw [exx_forr, if_pos (isVar_lt S hv)] | rw [exx_ret, if_pos (isVar_lt S hv)] | rw [exx_raise, if_pos (isVar_lt S hv)] | rw [exx_tryv, if_pos (isVar_lt S hv)])
 refine SimS.next fun Q E hQ => wpAny_Assign_Name (wpAny_Dict_empty ?_) (by rfl)
 have S'' := S.newCell (c := .dct []) (push_keep s.heap _) (Heap.get?_size _) ⟨[], Heap.DictOf.new (knd := strKind W.prog W.w) s.heap, .nil⟩
 exact bind_ok (s := { s with heap := s.heap.push _ }) cx.cs S'' hv (new_loc S _) fun h₃ k₃ S₃ K₃ => hQ Φ _ h₃ k₃ S₃ ((Mv.cell (push_keep s.heap _) (Heap.get?_size _)).trans (.bind K₃))
theorem expr_okS {sc : Sc} {x : E} {e : Expr} {pos : Pos} (hn : noLComp e = true) (hx : OkE W n C sc x e) : OkS W n C sc (.expr x) (.Expr e pos) := by
 intro A F s Φ ρ σ fr hF cx S
 subst hF
 rw [exx_expr]
 have hi : interactive F.env = false := by unfold interactive; rw [cx.kind]; rfl
 have hs : swapsWith e none pos.line F.env = pure false := by cases e <;> first | rfl | cases hn
 refine SimS.of (fun Q E h => wpAny_Expr_any h hi hs) (SimS.val (P2 := fun _ Q E s' => Q .next s') S (hx cx S.dy) fun u v σ' Φ' h' k e S' r => SimS.next fun Q E hQ => hQ Φ' ρ h' k S' .refl)
theorem app_okS {sc : Sc} {i : Nat} {x : E} {e : Expr} {id nm : Str} {px ap cp pos : Pos} (hv : sc.isVar i id = true) (hnm : nm = ("append" : Str)) (hst : notStar e = true) (hline : (ap.endLine == cp.line) = true) (hx : OkE W n C sc x e) :
  OkS W n C sc (.app i x) (.Expr (.Call (.Attribute (.Name id px) nm ap) [e] [] cp) pos) := by
 intro A F s Φ ρ σ fr hF cx S
 subst hF
 subst hnm
 rw [exx_app]
 have hi : interactive F.env = false := by unfold interactive; rw [cx.kind]; rfl
 obtain ⟨hv', hd'⟩ := Sc.isVar_iff hv
 split
 ·rename_i m hfr
  split
  ·rename_i xs₀ hσ
   refine SimS.of (P' := fun Q E s => wpAny (model W.prog W.w) A (eval (.Name id px) F.env) (fun ov s₁ => ∃ D its, ov = .ref D ∧ PlainL s₁.heap D its ∧
    wpAny (model W.prog W.w) A (eval e F.env) (fun y s₂ => wpAny (model W.prog W.w) A (call (.builtin "list.append") [.ref D, y]) (fun _ => Q .next) E s₂) E s₁) E s)
    (fun Q E h => wpAny_Expr_any (wpAny_Call_append rfl (by rw [back_one hst]; rfl) hline (back_one hst) h) hi (by rfl)) ?_
   intro Q E h1 h2 h3 h4
   refine wpAny_Name (load_ok cx S.dy hv' hfr fun u hu => ?_) hd'
   obtain ⟨a, ha, rfl⟩ := hu
   obtain ⟨vs₀, m₀, hg₀, _⟩ := S.se.inv.cell m a _ ha hσ
   refine ⟨a, vs₀.toArray, rfl, ⟨_, m₀, hg₀, rfl, rfl, rfl⟩, ?_⟩
   refine SimS.val (P2 := fun y Q E s₂ => wpAny (model W.prog W.w) A (call (.builtin "list.append") [.ref a, y]) (fun _ => Q .next) E s₂) S (hx cx S.dy) (fun u v σ' Φ' h' k e S' r => ?_) Q E h1 h2 h3 h4
   split
   ·rename_i z xs hσ'
    refine SimS.ite (fun hl => SimS.next fun Q E hQ => ?_) fun _ => .stuck
    obtain ⟨vs, mm, hg, rs⟩ := S'.se.inv.cell m a _ ha hσ'
    have := rs.length
    refine wpAny_list_append_plain (s := { s with heap := h', toks := k }) (items := vs.toArray) ⟨mm, hg⟩ (fun h₅ hp₅ hs₅ => ?_) (by have := lim_le; simp only [List.size_toArray]; lia)
    obtain ⟨m', em⟩ := exists_push hp₅
    exact hQ Φ' ρ h₅ k (S'.setCell ha hs₅ ⟨_, m', em, rs.append (.cons r .nil)⟩) (Mv.set ha hs₅ ⟨_, em⟩)
   ·exact .stuck
  ·exact .stuck
 ·exact .stuck
theorem stored_new {ws : List (Str × Value)} {kvs : List (Str × PyData)} (r : PR Φ ws kvs) {k : Str} (hk : (kvs.lookup k).isNone = true) (u : Value) : stored ws k u = ws ++ [(k, u)] := by
 have : ws.any (fun kv => kv.1 = k) = false := by
  induction r with
  | nil => rfl
  | cons e _ ih =>
   rename_i k' v x ws kvs hpr
   rw [List.lookup_cons] at hk
   cases hq : k == k' with
   | true => rw [hq] at hk; cases hk
   | false =>
    rw [hq] at hk
    have hne : k' ≠ k := fun q => by rw [q] at hq; simp at hq
    simp only [List.any_cons, hne, decide_false, Bool.false_or]
    exact ih hk
 unfold stored
 rw [if_neg (by simp [this])]
theorem PR.snoc {ws : List (Str × Value)} {kvs : List (Str × PyData)} (r : PR Φ ws kvs) {k : Str} {u : Value} {x : PyData} (hu : RD Φ u x) : PR Φ (ws ++ [(k, u)]) (kvs ++ [(k, x)]) := by
 induction r with
 | nil => exact .cons hu .nil
 | cons e _ ih => exact .cons e ih
theorem setd_okS {sc : Sc} {i : Nat} {k v : E} {ke ve : Expr} {id : Str} {px sp pos : Pos} (hv : sc.isVar i id = true) (hk : OkE W n C sc k ke) (hx : OkE W n C sc v ve) : OkS W n C sc (.setd i k v) (.Assign [.Subscript (.Name id px) ke sp] ve pos) := by
 intro A F s Φ ρ σ fr hF cx S
 subst hF
 obtain ⟨hv', hd'⟩ := Sc.isVar_iff hv
 rw [exx_setd]
 refine SimS.of (fun Q E h => wpAny_Assign_Subscript h (by cases ve <;> rfl)) (SimS.val (P2 := fun v Q E s₁ => wpAny (model W.prog W.w) A (eval (.Name id px) F.env) (fun ov s₂ => wpAny (model W.prog W.w) A (eval ke F.env) (fun iv s₃ =>
   wpAny (model W.prog W.w) A (setItem ov iv v) (fun _ => Q .next) E s₃) E s₂) E s₁) S (hx cx S.dy) fun u x σ' Φ' h' k' e S' r => ?_)
 split
 ·rename_i x m hfr
  intro Q E h1 h2 h3 h4
  refine wpAny_Name (load_ok (s := { s with heap := h', toks := k' }) cx S'.dy hv' hfr fun w hw => ?_) hd'
  obtain ⟨a, ha, rfl⟩ := hw
  refine SimS.valx (s := { s with heap := h', toks := k' }) (P2 := fun iv Q E s₃ => wpAny (model W.prog W.w) A (setItem (.ref a) iv u) (fun _ => Q .next) E s₃) S' (hk cx S'.dy) (fun kv ky σ₂ Φ₂ h₂ k₂ e₂ S₂ St₂ r₂ => ?_) Q E h1 h2 h3 h4
  split
  ·rename_i key kvs hσ
   refine SimS.ite (fun hl => SimS.next fun Q E hQ => ?_) fun _ => .stuck
   cases r₂
   rename_i t hstr
   obtain ⟨ws, hdo, pr⟩ := S₂.se.inv.cell m a _ ha hσ
   have hlen := pr.length
   have hsz : ws.length ≤ sizeLine := by have := lim_le; rw [hlen]; lia
   refine wpAny_setItem_pairs (s := { s with heap := h₂, toks := k₂ }) (knd := strKind W.prog W.w) (k := key) (strKind_is ..) hdo (fun h₃ hm hs₃ => ?_) hsz
   rw [stored_new pr hl.1] at hm
   exact hQ Φ₂ ρ h₃ _ (S₂.setCell ha hs₃ ⟨_, hm, pr.snoc (RD.mono St₂.ext r)⟩) (Mv.set ha hs₃ (let ⟨o, _, _, e, _⟩ := hm; ⟨o, e⟩))
  ·exact .stuck
 ·exact .stuck
end
end Holk
namespace Holk
open PySem PyProof.Rows
theorem ve_meta : isSubtype (.type ((Manifest.find? "ValueError").elim "type" fun x => x.metatype)) (.type "tuple") = pure false := by rw [isSubtype_type]; kernel_rfl
theorem ve_self : isSubtype (.type "ValueError") (.type "ValueError") = pure true := by rw [isSubtype_type]; kernel_rfl
section
variable {W : Wd} {F : Fx} {Φ Φ' : Fz} {ρ ρ' : List Addr} {σ σ' : Store} {fr fr' : Frame} {h h' : Heap} {s : Shared} {A : Around} {n : Nat} {C : CallT}
theorem raise_okS (B : Base W) {sc : Sc} {id msg : Str} {k : Nat} {np mp cp pos : Pos} (hg : sc.isGlob id = true) (hid : id = ("ValueError" : Str)) : OkS W n C sc .raise (.Raise (some (.Call (.Name id np) [.Constant (.str msg) k mp] [] cp)) none pos) := by
 intro A F s Φ ρ σ fr hF cx S
 subst hF
 subst hid
 obtain ⟨hv, hd⟩ := Sc.isGlob_iff hg
 rw [exx_raise]
 intro Q E _ _ _ h4
 refine wpAny_Raise_call PySem.F.excCall_ValueError PySem.F.excRaise_ValueError cx.handled (by rw [back_one rfl]; rfl) (builtin_ok B cx S.dy.inv hv B.valueError.1 B.valueError.2 hd ⟨rfl, ?_⟩)
 rw [back_one rfl]
 refine Calls.evalArgs_plain (Calls.spliced_cons (wpAny_Constant_str (Calls.spliced_nil ⟨rfl, by rw [sizeLine_is]; simp, fun h' e hm => ?_⟩)))
 have hne : F.hs.get? e = none := S.se.gone hm.new
 refine h4 e σ Φ ρ h' _ rfl (S.se.step (Step.of_ext hm.keeps) (S.se.inv.ext hm.keeps)) ?_
 obtain ⟨t, ht, _, _⟩ := hm.there
 exact ⟨hne, S.se.inv.unfrozen hm.new, (fun q => by obtain ⟨o, e'⟩ := S.se.inv.live q; have hz := hm.new; rw [e'] at hz; cases hz), _, _, ht, rfl, rfl, .none rfl rfl⟩
theorem flight_any {X : Addr → Prop} {l : List Env} {Q : Unit → Shared → Prop} {E : Value → Shared → Prop} {L e : Addr} (fl : Option Addr)
  (SO : StackOk l Φ ρ s.heap) (I : Inv W Φ ρ σ s.heap) (St : Kp X (frs l) h s.heap) (T : Thrown Φ ρ L h s.heap e false)
  (hQ : ∀ h'', Inv W Φ ρ σ h'' → Kp X (frs l) h h'' → StackOk l Φ ρ h'' → Thrown Φ ρ L h h'' e false → Q () { s with heap := h'' }) :
  wpAny (model W.prog W.w) A (setFlight (.ref e) fl) Q E s := by
 have T' := T
 obtain ⟨new, fz, out, oe, vs, he, hc, hd, tb⟩ := T
 cases tb with
 | none q h1 =>
  unfold setFlight
  refine wpAny_bind (wpAny_field he hd h1 ?_)
  rw [if_neg (by decide)]
  exact wpAny_pure (hQ s.heap I St SO T')
 | some h1 hTe hTn hTf hTo hT hdT h3 =>
  rename_i T oT ts
  have h3' : 3 < ts.size := by rcases h3 with h3 | ⟨_, y, h3⟩ <;> exact (Array.getElem?_eq_some_iff.mp h3).1
  unfold setFlight
  refine wpAny_bind (wpAny_field he hd h1 ?_)
  rw [if_pos (show (Value.ref T != Value.none) = true from by simp)]
  refine wpAny_setField hT hdT h3' ?_
  have hTs : T ∉ frs l := fun hm => by
   obtain ⟨_, _, o, ho, hnf⟩ := SO.mem hm
   rw [hT] at ho; cases ho; exact hnf ts hdT
  generalize hmk : fl.elim Value.none (fun f => rawInt f) = mk
  have hself := Heap.get?_update_self (Obj.mapFields (·.setIfInBounds 3 mk)) hT (Obj.isFreed_of_fields (Obj.data_mapFields hdT _))
  have other : ∀ b, b ≠ T → (s.heap.update T (Obj.mapFields (·.setIfInBounds 3 mk))).get? b = s.heap.get? b := fun b hb => Heap.get?_update_other _ _ (Ne.symm hb)
  have ne : ∀ a o, h.get? a = some o → a ≠ T := fun a o q r => by rw [r, hTn] at q; cases q
  refine hQ _ ?_ ?_ ?_ ?_
  ·refine ⟨I.base, fun a o q => (other a fun r => by rw [r, hTf] at q; cases q).trans (I.frz a o q), I.len, fun n a c h1 h2 => ?_, I.nodup, I.apart⟩
   exact (I.cell n a c h1 h2).mono (fun _ _ q => q) fun o q => (other a fun r => hTo (r ▸ List.mem_of_getElem? h1)).trans q
  ·exact ⟨fun a o q => let ⟨o', q'⟩ := St.alive a o q; ⟨o', (other a (ne a o q)).trans q'⟩, fun a o hx hn q => (other a (ne a o q)).trans (St.keep a o hx hn q), fun a o hx q => let ⟨sl, q'⟩ := St.slots a o hx q; ⟨sl, (other a (ne a o q)).trans q'⟩⟩
  ·intro env' he'
   obtain ⟨k, L', o, p1, p2, p3, p4, p5⟩ := SO env' he'
   have : L' ≠ T := fun r => hTs (r ▸ List.mem_filterMap.mpr ⟨env', he', p1⟩)
   exact ⟨k, L', o, p1, (other L' this).trans p2, p3, p4, p5⟩
  ·exact ⟨new, fz, out, oe, vs, (other e (Ne.symm hTe)).trans he, hc, hd, .some h1 hTe hTn hTf hTo hself (Obj.data_mapFields hdT _) (.inr ⟨rfl, mk, by simp [h3']⟩)⟩
theorem tryv_okS (B : Base W) {sc : Sc} {i : Nat} {x : E} {value : Expr} {id eid id' : Str} {px ap ep px' cp ap' hp pos : Pos} {ck : Nat} (hv : sc.isVar i id = true) (hid : id' = id) (hn : noComp value = true) (hw : swb sc value (.Name id px) = false) (hg : sc.isGlob eid = true) (heid : eid = ("ValueError" : Str)) (hx : OkE W n C sc x value) :
  OkS W n C sc (.tryv i x) (.Try [.Assign [.Name id px] value ap] [.ExceptHandler (some (.Name eid ep)) none [.Assign [.Name id' px'] (.Constant .none ck cp) ap'] hp] [] [] pos) := by
 intro A F s Φ ρ σ fr hF cx S
 subst hF
 subst heid
 subst hid
 obtain ⟨hv', hd'⟩ := Sc.isGlob_iff hg
 (first | rw [exx_assign, if_pos (isVar_lt S hv)] | rw [exx_newl, if_pos (isVar_lt S hv)] | rw [exx_newOf, if_pos (isVar_lt S hv)] | rw [exx_newd, if_pos (isVar_lt S hv)] | rw [exx_setd, if_pos (isVar_lt S hv)] | rw [exx_app, if_pos (isVar_lt S hv)] | rw [exx_expr, if_pos (isVar_lt S hv)] | rw [exx_ite, if_pos (isVar_lt S hv)] | rw [exx_whil, if_pos (isVar_lt S hv)] | rw [exx_fors, if_pos (isVar_lt S hv)] | rw [exx_forr, if_pos (isVar_lt S hv)] | rw [exx_ret, if_pos (isVar_lt S hv)] | rw [exx_raise, if_pos (isVar_lt S hv)] | rw [exx_tryv, if_pos (isVar_lt S hv)])
 intro Q E h1 h2 h3 h4
 refine wpAny_Try_except (wpAny_execs_cons (wpAny_Assign_Name (hx cx S.dy _ _ (fun q => h1 (by rw [q])) (fun u v σ' Φ' h' k e I St r => ?_) fun e σ' Φ' h' k q I St T => ?_) (by rw [swb_ok cx.cs hn, hw])))
 ·have S' := S.step St I
  refine bind_ok (s := { s with heap := h', toks := k }) cx.cs S' hv r fun h'' k' S'' K => ?_
  refine wpAny_execs_nil (wpAny_execs_nil ?_)
  exact h2 _ _ Φ' ρ h'' k' (by rw [e]) S'' ((Mv.step St).trans (.bind K))
 ·have S' := S.step St I
  refine note_ok (s := { s with heap := h', toks := k }) (h := s.heap) (X := (· ∈ ρ)) cx.frames cx.f0 cx.f rfl S'.se.stk I St.kp T fun h₁ I₁ K₁ SO₁ T₁ => ?_
  refine flight_any (s := { s with heap := h₁, toks := k }) (h := s.heap) none SO₁ I₁ K₁ T₁.weaken fun h₂ I₂ K₂ SO₂ T₂ => ?_
  have S₂ := S.step ⟨St.ext, St.fresh, K₂⟩ I₂
  have T₂c := T₂
  obtain ⟨_, _, _, oe, vs, he, hc, hd, _⟩ := T₂c
  refine wpAny_handleBy_builtin (X := "ValueError") (T := "ValueError") (b := true) PySem.F.excRaise_ValueError.isExc ve_meta ve_self (builtin_okK (s := { s with heap := h₂, toks := k }) B cx.cs I₂ hv' B.valueError.1 B.valueError.2 hd' ⟨rfl, ⟨_, he, hc⟩, ?_⟩)
  rw [if_pos rfl]
  refine flight_any (s := { s with heap := h₂, toks := k }) (h := s.heap) (L := F.L) none SO₂ I₂ K₂ T₂ fun h₃ I₃ K₃ SO₃ T₃ => ?_
  have S₃ := S.step ⟨St.ext, St.fresh, K₃⟩ I₃
  refine wpAny_execs_cons (wpAny_Assign_Name (wpAny_Constant_none (bind_ok (s := { s with heap := h₃, toks := k }) cx.cs S₃ hv (v := .d .none) RD.none fun h₄ k₄ S₄ K₄ => ?_)) (by rfl))
  exact wpAny_execs_nil (h2 _ _ Φ' ρ h₄ k₄ (by rw [q]) S₄ ((Mv.step (⟨St.ext, St.fresh, K₃⟩ : Step ρ (frs F.l) Φ s.heap Φ' h₃)).trans (.bind K₄)))
end
end Holk
namespace Holk
open PySem PyProof.Rows
section
variable {W : Wd} {F : Fx} {Φ Φ' : Fz} {ρ ρ' : List Addr} {σ σ' : Store} {fr fr' : Frame} {h h' : Heap} {s : Shared} {A : Around} {n : Nat} {C : CallT}
theorem err_own (cx : Cx W n A F.e0 F.outer F.L F.env F.sc) {e : Addr} {k : Nat} {E : Value → Shared → Prop} (S : SE W F Φ ρ σ h) (T : Thrown Φ ρ F.L F.hs h e false)
  (h4 : ∀ h', SE W F Φ ρ σ h' → Thrown Φ ρ F.L F.hs h' e false → E (.ref e) { s with heap := h', toks := k }) :
  notedBy (model W.prog W.w) A F.env (cameBackBy (model W.prog W.w) A F.env E) (.ref e) { s with heap := h, toks := k } :=
 own_ok (s := { s with heap := h, toks := k }) (h := F.hs) (X := (· ∈ F.ρ₀)) cx.frames cx.f0 cx.f rfl S.stk S.inv S.st.kp T fun h'' I'' K'' SO'' T'' => h4 h'' ⟨I'', SO'', ⟨S.st.ext, S.st.fresh, K''⟩, S.pre⟩ T''.weaken
noncomputable def LK (W : Wd) (A : Around) (F : Fx) (Q : Flow → Shared → Prop) (E : Value → Shared → Prop) : Result → Shared → Prop := fun r s' => match r with | .ok f => Q f s' | .error e => cameBackBy (model W.prog W.w) A F.env E e s'
inductive WhI (W : Wd) (F : Fx) (s : Shared) (Φ : Fz) (ρ : List Addr) (f : Nat → Frame → Store → XR) (R : XR) : Nat → Shared → Prop
 | mk {m : Nat} (Φ' : Fz) (ρ' : List Addr) (σ' : Store) (fr' : Frame) (h' : Heap) (k : Nat) (S : SS W F Φ' ρ' σ' fr' h') (M : Mv F Φ ρ s.heap Φ' ρ' h') (e : f m fr' σ' = R) : WhI W F s Φ ρ f R m { s with heap := h', toks := k }
inductive FoI (W : Wd) (F : Fx) (s : Shared) (Φ : Fz) (ρ : List Addr) (hb : Heap) (it : Addr) (J : List PyData → Fz → Heap → Prop) (f : List PyData → Frame → Store → XR) (R : XR) : Nat → Shared → Prop
 | mk (items : List PyData) (Φ' : Fz) (ρ' : List Addr) (σ' : Store) (fr' : Frame) (h' : Heap) (k : Nat) (S : SS W F Φ' ρ' σ' fr' h') (M : Mv F Φ ρ hb Φ' ρ' h') (hΦ : Φ' it = none) (hρ : it ∉ ρ') (hJ : J items Φ' h') (e : f items fr' σ' = R) : FoI W F s Φ ρ hb it J f R items.length { s with heap := h', toks := k }
inductive LoI (W : Wd) (F : Fx) (s : Shared) (Φ : Fz) (ρ : List Addr) (hb : Heap) (it a : Addr) (f : Nat → Nat → Frame → Store → XR) (R : XR) : Nat → Shared → Prop
 | mk {m : Nat} (i : Nat) (Φ' : Fz) (ρ' : List Addr) (σ' : Store) (fr' : Frame) (h' : Heap) (k : Nat) (S : SS W F Φ' ρ' σ' fr' h') (M : Mv F Φ ρ hb Φ' ρ' h') (hΦ : Φ' it = none) (hρ : it ∉ ρ') (hJ : h'.IsListIter it a i) (e : f m i fr' σ' = R) : LoI W F s Φ ρ hb it a f R m { s with heap := h', toks := k }
theorem whil_okS {sc : Sc} {c : E} {b : List S} {test : Expr} {body : List Stmt} {pos : Pos} (hc : OkT W n C sc c test) (hb : OkSs W n C sc b body) : OkS W n C sc (.whil c b) (.While test body [] pos) := by
 intro A F s Φ ρ σ fr hF cx S
 subst hF
 rw [exx_whil]
 intro Q E h1 h2 h3 h4
 generalize hR : whileLoop (fun fr σ => evE W.G C c fr σ) (fun fr σ => exSs W.G C b fr σ) 1000 fr σ = R at h1 h2 h3 h4
 refine wpAny_While (codeAny_whileLoop (WhI W F s Φ ρ (fun m => whileLoop (fun fr σ => evE W.G C c fr σ) (fun fr σ => exSs W.G C b fr σ) m) R) ?_ 1000 (.mk Φ ρ σ fr s.heap s.toks S .refl hR))
 rintro m _ ⟨Φ', ρ', σ', fr', h', k, S', M', hm⟩
 cases m with
 | zero => (first | rw [Z61] at hm | rw [Z62] at hm); exact absurd hm.symm h1
 | succ m =>
  (first | rw [Z61] at hm | rw [Z62] at hm)
  have q : ((evE W.G C c fr' σ').then fun v σ => (Res.of σ (asBool v)).then fun b' σ => if b' = true then (exSs W.G C b fr' σ).andThen (whileLoop (fun fr σ => evE W.G C c fr σ) (fun fr σ => exSs W.G C b fr σ) m) else .next fr' σ)
    = (evB W.G C c fr' σ').then fun b' σ => if b' = true then (exSs W.G C b fr' σ).andThen (whileLoop (fun fr σ => evE W.G C c fr σ) (fun fr σ => exSs W.G C b fr σ) m) else .next fr' σ := by
   unfold evB
   cases evE W.G C c fr' σ' <;> rfl
  rw [q] at hm
  refine hc cx S'.dy (s := { s with heap := h', toks := k }) _ _ (fun z => h1 (by rw [← hm, z]; rfl)) (fun t t' σ₁ Φ₁ h₁ k₁ e I St r => ?_) fun e σ₁ Φ₁ h₁ k₁ z I St T => ?_
  ·cases r
   rw [e] at hm
   have S₁ := S'.step St I
   have M₁ := M'.trans (Mv.step St)
   cases t with
   | false =>
    simp only [Bool.false_eq_true, if_false] at hm ⊢
    exact wpAny_execs_nil (h2 fr' σ₁ Φ₁ ρ' h₁ k₁ hm.symm S₁ M₁)
   | true =>
    simp only [if_true, Res.then_ok] at hm ⊢
    refine hb rfl cx S₁ (s := { s with heap := h₁, toks := k₁ }) _ _ (fun z => h1 (by rw [← hm, z]; rfl)) (fun fr₂ σ₂ Φ₂ ρ₂ h₂' k₂ e S₂ M₂ => ?_) (fun u v σ₂ Φ₂ ρ₂ h₂' k₂ e S₂ r => ?_) fun x σ₂ Φ₂ ρ₂ h₂' k₂ e S₂ T => ?_
    ·rw [e] at hm
     exact ⟨m, Nat.lt_succ_self m, .mk Φ₂ ρ₂ σ₂ fr₂ h₂' k₂ S₂ (M₁.trans M₂) hm⟩
    ·rw [e] at hm
     exact h3 u v σ₂ Φ₂ ρ₂ h₂' k₂ hm.symm S₂ r
    ·rw [e] at hm
     exact err_own cx S₂ T fun h₃ S₃ T₃ => h4 x σ₂ Φ₂ ρ₂ h₃ k₂ hm.symm S₃ T₃
  ·rw [z] at hm
   exact err_own cx (S'.se.step St I) (T.back S'.se.st.kp.alive) fun h₃ S₃ T₃ => h4 e σ₁ Φ₁ ρ' h₃ k₁ hm.symm S₃ T₃
structure Itr (W : Wd) (it : Addr) (J : List PyData → Fz → Heap → Prop) : Prop where
 next : ∀ {A : Around} {x : PyData} {xs : List PyData} {Φ : Fz} {s : Shared}, J (x :: xs) Φ s.heap → Φ it = none → ∀ {Q : Option Value → Shared → Prop} {E : Value → Shared → Prop}, (∀ v h' k, RD Φ v x → J xs Φ h' → Heap.SameBut it s.heap h' → (∃ o, h'.get? it = some o) → Q (some v) { s with heap := h', toks := k }) → wpAny (model W.prog W.w) A (pyNext (.ref it)) Q E s
 stop : ∀ {A : Around} {Φ : Fz} {s : Shared}, A.handled = none → J [] Φ s.heap → ∀ {Q : Option Value → Shared → Prop} {E : Value → Shared → Prop}, (∀ h', Heap.ExtBut it s.heap h' → Q none { s with heap := h' }) → wpAny (model W.prog W.w) A (pyNext (.ref it)) Q E s
 go : ∀ {A : Around} {xs : List PyData} {Φ : Fz} {s : Shared}, J xs Φ s.heap → ∀ {e : Expr} {v : Value} {Q : Unit → Shared → Prop} {E : Value → Shared → Prop}, Q () s → wpAny (model W.prog W.w) A (letOwnedTupleGo e (.ref it) v) Q E s
 keep : ∀ {xs : List PyData} {Φ Φ' : Fz} {h h' : Heap}, J xs Φ h → (∀ a o, Φ a = some o → Φ' a = some o) → (∀ a o, Φ' a = some o → h'.get? a = some o) → (∀ o, h.get? it = some o → h'.get? it = some o) → J xs Φ' h'
 alive : ∀ {xs : List PyData} {Φ : Fz} {h : Heap}, J xs Φ h → ∃ o, h.get? it = some o
theorem apart_of (S : SS W F Φ ρ σ fr h) {it : Addr} (hn : h.get? it = none) : (it ≠ F.env.locals ∧ (∀ x, F.env.cells.lookup x ≠ some it)) ∧ it ∉ ρ ∧ it ∉ frs F.l := by
 obtain ⟨a, b, c, d⟩ := Dy.alive (sc := F.sc) S.dy hn
 exact ⟨⟨a, b⟩, c, d⟩
theorem for_loop {it : Addr} {J : List PyData → Fz → Heap → Prop} (T : Itr W it J) {sc : Sc} {t : Tg} {b : List S} {te : Expr} {body : List Stmt} (ht : ckT sc t te = true) (hb : OkSs W n C sc b body) (hF : F.sc = sc) (cx : Cx W n A F.e0 F.outer F.L F.env F.sc)
  {hb₀ : Heap} (hit : hb₀.get? it = none) (hap : (it ≠ F.env.locals ∧ (∀ x, F.env.cells.lookup x ≠ some it)) ∧ it ∉ ρ ∧ it ∉ frs F.l) (hgone : F.hs.get? it = none)
  {items : List PyData} {σ : Store} {fr : Frame} {h : Heap} (S : SS W F Φ ρ σ fr h) (M : Mv F Φ ρ hb₀ Φ ρ h) (hΦ : Φ it = none) (hJ : J items Φ h) {k : Nat}
  {Q : Flow → Shared → Prop} {E : Value → Shared → Prop} {R : XR} (hR : forItems (fun fr σ => exSs W.G C b fr σ) t items fr σ = R) (h1 : R ≠ .stuck)
  (h2 : ∀ fr' σ' Φ' ρ' h' k, R = .next fr' σ' → SS W F Φ' ρ' σ' fr' h' → Mv F Φ ρ hb₀ Φ' ρ' h' → Q .next { s with heap := h', toks := k })
  (h3 : ∀ u v σ' Φ' ρ' h' k, R = .ret v σ' → SE W F Φ' ρ' σ' h' → VR Φ' ρ' u v → Q (.ret u) { s with heap := h', toks := k })
  (h4 : ∀ e σ' Φ' ρ' h' k, R = .err σ' → SE W F Φ' ρ' σ' h' → Thrown Φ' ρ' F.L F.hs h' e false → E (.ref e) { s with heap := h', toks := k }) :
  codeAny (model W.prog W.w) A (.forLoop te (.ref it) body [] F.env) (LK W A F Q E) { s with heap := h, toks := k } := by
 subst hF
 refine codeAny_forLoop_any (FoI W F s Φ ρ hb₀ it J (fun items => forItems (fun fr σ => exSs W.G C b fr σ) t items) R) ?_ items.length (.mk items Φ ρ σ fr h k S M hΦ hap.2.1 hJ hR)
 rintro _ _ ⟨items, Φ', ρ', σ', fr', h', k, S', M', hΦ', hρ', hJ', hm⟩
 have hown : ¬ own F.env it := fun q => by rcases q with q | ⟨y, q⟩; exact hap.1.1 q; exact hap.1.2 y q
 cases items with
 | nil =>
  (first | rw [Z59] at hm | rw [Z60] at hm)
  refine T.stop (s := { s with heap := h', toks := k }) cx.handled hJ' fun h₁ hx => ?_
  have S₁ := S'.other ⟨hap.1.1, hap.1.2, hρ', hap.2.2⟩ hΦ' hgone fun a o hne q => hx a o hne q
  exact wpAny_execs_nil (h2 fr' σ' Φ' ρ' h₁ k hm.symm S₁ (M'.other hit fun a o hne q => hx a o hne q))
 | cons x xs =>
  (first | rw [Z59] at hm | rw [Z60] at hm)
  refine T.next (s := { s with heap := h', toks := k }) hJ' hΦ' fun v h₁ k₁ rv hJ₁ hs₁ hl₁ => ?_
  have S₁ := S'.other ⟨hap.1.1, hap.1.2, hρ', hap.2.2⟩ hΦ' hgone fun a o hne q => (hs₁.2 a hne).trans q
  have M₁ := M'.other hit fun a o hne q => (hs₁.2 a hne).trans q
  refine T.go (s := { s with heap := h₁, toks := k₁ }) hJ₁ ?_
  cases ha : asg σ' t (.d x) fr' with
  | none => rw [ha] at hm; exact absurd hm.symm h1
  | some fr₂ =>
   rw [ha] at hm
   dsimp only at hm
   refine asg_ok t te ht (s := { s with heap := h₁, toks := k₁ }) (fun _ => true) cx S₁.dy (tgAll_all _) (fun i _ => cov_own i) (v := .d x) rv ha fun h₂ k₂ D₂ K₂ => ?_
   have S₂ := S₁.store D₂ K₂
   have M₂ := M₁.trans (Mv.bind K₂)
   have hJ₂ : J xs Φ' h₂ := T.keep hJ₁ (fun _ _ q => q) S₂.se.inv.frz fun o q => K₂.keep _ _ hown hap.2.2 q
   obtain ⟨oi, hoi⟩ := T.alive hJ₂
   refine hb rfl cx S₂ (s := { s with heap := h₂, toks := k₂ }) _ _ (fun z => h1 (by rw [← hm, z]; rfl)) (fun fr₃ σ₃ Φ₃ ρ₃ h₃ k₃ e S₃ M₃ => ?_) (fun u w σ₃ Φ₃ ρ₃ h₃ k₃ e S₃ r => ?_) fun y σ₃ Φ₃ ρ₃ h₃ k₃ e S₃ T₃ => ?_
   ·rw [e] at hm
    have hρ₃ : it ∉ ρ₃ := fun q => by
     obtain ⟨r, hr, hf⟩ := M₃.pre
     rw [hr] at q
     rcases List.mem_append.mp q with q | q
     ·exact hρ' q
     ·rw [hf it q] at hoi; cases hoi
    have hk : ∀ o, h₂.get? it = some o → h₃.get? it = some o := fun o q => M₃.kp.keep it o (fun z => by rcases z with z | z; exact hown z; exact hρ' z) hap.2.2 q
    exact ⟨xs.length, Nat.lt_succ_self _, .mk xs Φ₃ ρ₃ σ₃ fr₃ h₃ k₃ S₃ (M₂.trans M₃) ((M₃.fresh it oi hoi).trans hΦ') hρ₃ (T.keep hJ₂ M₃.ext S₃.se.inv.frz hk) hm⟩
   ·rw [e] at hm
    exact h3 u w σ₃ Φ₃ ρ₃ h₃ k₃ hm.symm S₃ r
   ·rw [e] at hm
    exact err_own cx S₃ T₃ fun h₄ S₄ T₄ => h4 y σ₃ Φ₃ ρ₃ h₄ k₃ hm.symm S₄ T₄
noncomputable def JAt (it : Addr) (xs : List PyData) (Φ : Fz) (h : Heap) : Prop := ∃ vs, ItAt Φ h it vs ∧ RDs Φ vs xs
theorem itr_at (it : Addr) : Itr W it (JAt it) where
 next := by
  rintro A x xs Φ s ⟨vs, hi, r⟩ hΦ Q E hQ
  cases r with
  | cons r1 r2 => exact it_next hi hΦ fun h' hi' hs hl => hQ _ h' s.toks r1 ⟨_, hi', r2⟩ hs hl
 stop := by
  rintro A Φ s hh ⟨vs, hi, r⟩ Q E hQ
  cases r
  exact it_end hh hi hQ
 go := by
  rintro A xs Φ s ⟨vs, hi, r⟩ e v Q E hQ
  exact it_go hi hQ
 keep := by
  rintro xs Φ Φ' h h' ⟨vs, hi, r⟩ hext hf hk
  exact ⟨vs, hi.keep hext hf hk, r.mono hext⟩
 alive := by
  rintro xs Φ h ⟨vs, hi, r⟩
  cases hi with
  | list _ _ h3 => obtain ⟨o, e, _⟩ := h3; exact ⟨o, e⟩
  | tuple _ _ h3 => obtain ⟨o, e, _⟩ := h3; exact ⟨o, e⟩
noncomputable def JRg (step : Int) (it : Addr) (xs : List PyData) (Φ : Fz) (h : Heap) : Prop := ∃ x : Int, IsRangeIter h it x xs.length step ∧ xs = (List.range xs.length).map fun (i : Nat) => .int (x + step * i)
theorem itr_rg (step : Int) (it : Addr) : Itr W it (JRg step it) where
 next := by
  rintro A x xs Φ s ⟨a, hi, r⟩ hΦ Q E hQ
  refine wpAny_pyNext_range_item hi (by simp) fun h' hi' hs => ?_
  rw [List.length_cons, List.range_succ_eq_map, List.map_cons] at r
  injection r with r1 r2
  subst r1
  refine hQ _ h' _ (by simpa using RD.int a s.toks) ⟨a + step, ?_, ?_⟩ hs ⟨_, hi'⟩
  ·have : (((PyData.int (a + step * ((0 : Nat) : Int)) :: xs).length : Nat) : Int) - 1 = xs.length := by simp
   rw [this] at hi'
   exact hi'
  ·conv => lhs; rw [r2]
   simp only [List.map_map, List.length_map, List.length_range]
   refine List.map_congr_left fun i _ => ?_
   simp only [Function.comp]
   congr 1
   push_cast
   rw [Int.mul_add]; lia
 stop := by
  rintro A Φ s hh ⟨a, hi, r⟩ Q E hQ
  exact wpAny_pyNext_range_end hh hi (by simp) hQ
 go := by
  rintro A xs Φ s ⟨a, hi, r⟩ e v Q E hQ
  exact go_plain hi rfl (by decide) hQ
 keep := by
  rintro xs Φ Φ' h h' ⟨a, hi, r⟩ hext hf hk
  exact ⟨a, hk _ hi, r⟩
 alive := by
  rintro xs Φ h ⟨a, hi, r⟩
  exact ⟨_, hi⟩
end
end Holk
namespace Holk
open PySem PyProof.Rows
section
variable {W : Wd} {F : Fx} {Φ Φ' : Fz} {ρ ρ' : List Addr} {σ σ' : Store} {fr fr' : Frame} {h h' : Heap} {s : Shared} {A : Around} {n : Nat} {C : CallT}
theorem loc_loop {it a : Addr} {m₀ : Nat} {sc : Sc} {t : Tg} {b : List S} {te : Expr} {body : List Stmt} (ht : ckT sc t te = true) (hb : OkSs W n C sc b body) (hF : F.sc = sc) (cx : Cx W n A F.e0 F.outer F.L F.env F.sc)
  {hb₀ : Heap} (hit : hb₀.get? it = none) (hap : (it ≠ F.env.locals ∧ (∀ x, F.env.cells.lookup x ≠ some it)) ∧ it ∉ ρ ∧ it ∉ frs F.l) (hgone : F.hs.get? it = none) (ha : ρ[m₀]? = some a)
  {fuel : Nat} {σ : Store} {fr : Frame} {h : Heap} (S : SS W F Φ ρ σ fr h) (M : Mv F Φ ρ hb₀ Φ ρ h) (hΦ : Φ it = none) (hJ : h.IsListIter it a 0) {k : Nat}
  {Q : Flow → Shared → Prop} {E : Value → Shared → Prop} {R : XR} (hR : forLoc (fun fr σ => exSs W.G C b fr σ) t m₀ fuel 0 fr σ = R) (h1 : R ≠ .stuck)
  (h2 : ∀ fr' σ' Φ' ρ' h' k, R = .next fr' σ' → SS W F Φ' ρ' σ' fr' h' → Mv F Φ ρ hb₀ Φ' ρ' h' → Q .next { s with heap := h', toks := k })
  (h3 : ∀ u v σ' Φ' ρ' h' k, R = .ret v σ' → SE W F Φ' ρ' σ' h' → VR Φ' ρ' u v → Q (.ret u) { s with heap := h', toks := k })
  (h4 : ∀ e σ' Φ' ρ' h' k, R = .err σ' → SE W F Φ' ρ' σ' h' → Thrown Φ' ρ' F.L F.hs h' e false → E (.ref e) { s with heap := h', toks := k }) :
  codeAny (model W.prog W.w) A (.forLoop te (.ref it) body [] F.env) (LK W A F Q E) { s with heap := h, toks := k } := by
 subst hF
 refine codeAny_forLoop_any (LoI W F s Φ ρ hb₀ it a (fun m i => forLoc (fun fr σ => exSs W.G C b fr σ) t m₀ m i) R) ?_ fuel (.mk 0 Φ ρ σ fr h k S M hΦ hap.2.1 hJ hR)
 rintro m _ ⟨i, Φ', ρ', σ', fr', h', k, S', M', hΦ', hρ', hJ', hm⟩
 have hown : ¬ own F.env it := fun q => by rcases q with q | ⟨y, q⟩; exact hap.1.1 q; exact hap.1.2 y q
 have ha' : ρ'[m₀]? = some a := by
  obtain ⟨r, hr, _⟩ := M'.pre
  rw [hr, List.getElem?_append_left (List.getElem?_eq_some_iff.mp ha).1]; exact ha
 cases m with
 | zero => (first | rw [Z17] at hm | rw [Z18] at hm); exact absurd hm.symm h1
 | succ m =>
 (first | rw [Z17] at hm | rw [Z18] at hm)
 split at hm
 ·rename_i xs hσ
  obtain ⟨vs, mm, hg, rs⟩ := S'.se.inv.cell m₀ a _ ha' hσ
  have hai : a ≠ it := fun q => hρ' (q ▸ List.mem_of_getElem? ha')
  split at hm
  ·rename_i hx
   have hlen : vs.length ≤ i := by have := rs.length; have := List.getElem?_eq_none_iff.mp hx; lia
   refine wpAny_pyNext_list_end (s := { s with heap := h', toks := k }) cx.handled hJ' ⟨_, hg, rfl, mm, rfl⟩ (by simp [hlen]) fun h₁ hx₁ => ?_
   have S₁ := S'.other ⟨hap.1.1, hap.1.2, hρ', hap.2.2⟩ hΦ' hgone fun a o hne q => hx₁ a o hne q
   exact wpAny_execs_nil (h2 fr' σ' Φ' ρ' h₁ k hm.symm S₁ (M'.other hit fun a o hne q => hx₁ a o hne q))
  ·rename_i x hx
   obtain ⟨v, hv, rv⟩ := rs.get hx
   refine wpAny_pyNext_list_item (s := { s with heap := h', toks := k }) (x := v) hJ' ⟨_, hg, rfl, mm, rfl⟩ (by simpa using hv) fun h₁ hJ₁ hs₁ => ?_
   have S₁ := S'.other ⟨hap.1.1, hap.1.2, hρ', hap.2.2⟩ hΦ' hgone fun a o hne q => (hs₁.2 a hne).trans q
   have M₁ := M'.other hit fun a o hne q => (hs₁.2 a hne).trans q
   have hJ₁' := hJ₁
   obtain ⟨oi₁, ho₁, hc₁, _⟩ := hJ₁'
   refine go_plain (s := { s with heap := h₁, toks := k }) ho₁ hc₁ (by decide) ?_
   cases hasg : asg σ' t (.d x) fr' with
   | none => rw [hasg] at hm; exact absurd hm.symm h1
   | some fr₂ =>
    rw [hasg] at hm
    dsimp only at hm
    refine asg_ok t te ht (s := { s with heap := h₁, toks := k }) (fun _ => true) cx S₁.dy (tgAll_all _) (fun i _ => cov_own i) (v := .d x) rv hasg fun h₂ k₂ D₂ K₂ => ?_
    have S₂ := S₁.store D₂ K₂
    have M₂ := M₁.trans (Mv.bind K₂)
    have hJ₂ : h₂.IsListIter it a (i + 1) := hJ₁.at fun o q => K₂.keep _ _ hown hap.2.2 q
    have hJ₂' := hJ₂
    obtain ⟨oi, hoi, _⟩ := hJ₂'
    refine hb rfl cx S₂ (s := { s with heap := h₂, toks := k₂ }) _ _ (fun z => h1 (by rw [← hm, z]; rfl)) (fun fr₃ σ₃ Φ₃ ρ₃ h₃ k₃ e S₃ M₃ => ?_) (fun u w σ₃ Φ₃ ρ₃ h₃ k₃ e S₃ r => ?_) fun y σ₃ Φ₃ ρ₃ h₃ k₃ e S₃ T₃ => ?_
    ·rw [e] at hm
     have hρ₃ : it ∉ ρ₃ := fun q => by
      obtain ⟨r, hr, hf⟩ := M₃.pre
      rw [hr] at q
      rcases List.mem_append.mp q with q | q
      ·exact hρ' q
      ·rw [hf it q] at hoi; cases hoi
     have hk : ∀ o, h₂.get? it = some o → h₃.get? it = some o := fun o q => M₃.kp.keep it o (fun z => by rcases z with z | z; exact hown z; exact hρ' z) hap.2.2 q
     exact ⟨m, Nat.lt_succ_self m, .mk (i + 1) Φ₃ ρ₃ σ₃ fr₃ h₃ k₃ S₃ (M₂.trans M₃) ((M₃.fresh it oi hoi).trans hΦ') hρ₃ (hJ₂.at hk) hm⟩
    ·rw [e] at hm
     exact h3 u w σ₃ Φ₃ ρ₃ h₃ k₃ hm.symm S₃ r
    ·rw [e] at hm
     exact err_own cx S₃ T₃ fun h₄ S₄ T₄ => h4 y σ₃ Φ₃ ρ₃ h₄ k₃ hm.symm S₄ T₄
 ·exact absurd hm.symm h1
theorem fors_okS {sc : Sc} {t : Tg} {e : E} {b : List S} {te ie : Expr} {body : List Stmt} {pos : Pos} (hset : notSet ie = true) (ht : ckT sc t te = true) (he : OkE W n C sc e ie) (hb : OkSs W n C sc b body) : OkS W n C sc (.fors t e b) (.For te ie body [] pos) := by
 intro A F s Φ ρ σ fr hF cx S
 rw [exx_fors]
 have cx' := cx
 subst hF
 refine SimS.of (fun Q E h => wpAny_For h (fun x => folded_plain hset x)) (SimS.val (P2 := fun x Q E s₁ => wpAny (model W.prog W.w) A (pyIter x) (fun it s₂ => codeAny (model W.prog W.w) A (.forLoop te it body [] F.env) (LK W A F Q E) s₂) E s₁) S (he cx S.dy) fun u v σ' Φ' h' k e' S' r => ?_)
 cases v with
 | d x =>
  dsimp only
  refine SimS.opt fun items hx => ?_
  intro Q E h1 h2 h3 h4
  refine it_start (s := { s with heap := h', toks := k }) S'.se.inv r hx fun o vs rs hfr hit => ?_
  have hn : h'.get? h'.objs.size = none := Heap.get?_size h'
  have kk := push_keep h' o
  exact for_loop (itr_at _) ht hb rfl cx (hb₀ := h') hn (apart_of S' hn) (S'.se.gone hn) (S'.step (Step.of_ext kk) (S'.se.inv.ext kk)) (Mv.step (Step.of_ext kk)) (S'.se.inv.unfrozen hn) ⟨vs, hit, rs⟩ rfl h1 h2 h3 h4
 | loc m =>
  obtain ⟨a, ha, rfl⟩ := r
  dsimp only
  refine SimS.opt fun fuel hx => ?_
  intro Q E h1 h2 h3 h4
  split at hx
  ·rename_i xs hσ
   obtain ⟨vs, mm, hg, rs⟩ := S'.se.inv.cell m a _ ha hσ
   refine wpAny_pyIter_list (s := { s with heap := h', toks := k }) ⟨_, hg, rfl, mm, rfl⟩ ?_
   have hn : h'.get? h'.objs.size = none := Heap.get?_size h'
   have kk := push_keep h' { cls := .type "list_iterator", data := .fields #[.ref a, rawInt 0] }
   refine loc_loop (a := a) (m₀ := m) ht hb rfl cx (hb₀ := h') hn (apart_of S' hn) (S'.se.gone hn) ha (S'.step (Step.of_ext kk) (S'.se.inv.ext kk)) (Mv.step (Step.of_ext kk)) (S'.se.inv.unfrozen hn) ?_ rfl h1 h2 h3 h4
   exact ⟨_, Heap.get?_push_size _ rfl, rfl, rfl⟩
  ·cases hx
theorem rsize_one (x : Int) : Builtin.Range.rangeSize 0 x 1 = (x.toNat : Int) := by rw [rangeSize_one]; split <;> lia
theorem rsize_neg {lo : Int} (h : -1 ≤ lo) : Builtin.Range.rangeSize lo (-1) (-1) = ((lo + 1).toNat : Int) := by
 unfold Builtin.Range.rangeSize
 rw [if_neg (by decide)]
 split
 ·have : (-(-1) : Int) = 1 := by decide
  rw [this, Int.ediv_one]; lia
 ·lia
theorem back_any {sc : Sc} {env : Env} {pos : Pos} : ∀ {xs : List E} {es : List Expr}, ckEs W.GN W.FN sc xs es = true → (backTo pos (starEach es env)).any (·.1) = false
 | [], [], _ => rfl
 | [], _ :: _, h => by simp [Z146, Z147] at h
 | x :: xs, [], h => by simp [Z146, Z147] at h
 | x :: xs, e :: es, h => by
  simp only [Z146, Z147, Bool.and_eq_true] at h
  rw [starEach_cons h.1.1]
  have := back_any (pos := pos) (env := env) h.2
  simpa [backTo] using this
theorem rdi1 {Φ : Fz} {vs : List Value} {a : Int} (r : RDs Φ vs [.int a]) : ∃ t, vs = [.int a t] := by
 cases r with
 | cons r1 r => cases r1; cases r; exact ⟨_, rfl⟩
theorem rdi3 {Φ : Fz} {vs : List Value} {a b c : Int} (r : RDs Φ vs [.int a, .int b, .int c]) : ∃ t u v, vs = [.int a t, .int b u, .int c v] := by
 cases r with
 | cons r1 r => cases r with
  | cons r2 r => cases r with
   | cons r3 r => cases r1; cases r2; cases r3; cases r; exact ⟨_, _, _, rfl⟩
theorem range_iff {ds items : List PyData} (hx : rangeOf ds = some items) : (∃ lo : Int, ds = [.int lo] ∧ -1000 ≤ lo ∧ lo ≤ 1000 ∧ items = (List.range lo.toNat).map fun (i : Nat) => .int (0 + 1 * i)) ∨ (∃ lo : Int, ds = [.int lo, .int (-1), .int (-1)] ∧ -1 ≤ lo ∧ lo ≤ 1000 ∧ items = (List.range (lo + 1).toNat).map fun (i : Nat) => .int (lo + -1 * i)) := by
 cases ds with
 | nil => cases hx
 | cons x ds =>
  obtain ⟨lo, hn, hx⟩ := bnd_iff (show (dInt x).bind _ = _ from hx)
  obtain rfl := dInt_iff hn
  cases ds with
  | nil => obtain ⟨⟨hlo, hhi⟩, e⟩ := ite_iff hx; exact .inl ⟨lo, rfl, hlo, hhi, e.symm⟩
  | cons y ds =>
   obtain ⟨hi, hn, hx⟩ := bnd_iff (show (dInt y).bind _ = _ from hx)
   obtain rfl := dInt_iff hn
   cases ds with
   | nil => cases hx
   | cons z ds =>
    obtain ⟨st, hn, hx⟩ := bnd_iff (show (dInt z).bind _ = _ from hx)
    obtain rfl := dInt_iff hn
    cases ds with
    | cons => cases hx
    | nil => obtain ⟨⟨rfl, rfl, hlo, hhi⟩, e⟩ := ite_iff hx; exact .inr ⟨lo, rfl, hlo, hhi, e.symm⟩
theorem small_neg {lo : Int} (hlo : -1 ≤ lo) (hhi : lo ≤ 1000) : Builtin.Range.small lo (-1) (-1) = true := by
 unfold Builtin.Range.small
 rw [rsize_neg hlo]
 simp only [Builtin.Range.rangeFitsLong, Bool.and_eq_true, Bool.or_eq_true, decide_eq_true_eq, beq_iff_eq, show ¬ ((-1 : Int) > 0) by decide, if_false]
 (apply And.intro <;> (first | (with_reducible apply And.intro <;> (apply And.intro <;> (first | (with_reducible apply And.intro <;> (first | (with_reducible apply And.intro <;> lia) | lia)) | lia))) | lia))
theorem forr_okS (B : Base W) {sc : Sc} {i : Nat} {args : List E} {b : List S} {te : Expr} {fn : Str} {es : List Expr} {body : List Stmt} {fp cp pos : Pos} (hg : sc.isGlob fn = true) (hfn : fn = ("range" : Str)) (ht : ckT sc (.var i) te = true) (hck : ckEs W.GN W.FN sc args es = true) (hes : OkEs W n C sc args es) (hb : OkSs W n C sc b body) :
  OkS W n C sc (.forr i args b) (.For te (.Call (.Name fn fp) es [] cp) body [] pos) := by
 intro A F s Φ ρ σ fr hF cx S
 subst hF
 subst hfn
 obtain ⟨hv, hd⟩ := Sc.isGlob_iff hg
 rw [exx_forr]
 refine SimS.of (P' := fun Q E s => wpAny (model W.prog W.w) A (spliced (backTo cp (starEach es F.env))) (fun vs s₁ => wpAny (model W.prog W.w) A (call (.type "range") vs) (fun x s₁ => wpAny (model W.prog W.w) A (pyIter x) (fun it s₂ => codeAny (model W.prog W.w) A (.forLoop te it body [] F.env) (LK W A F Q E) s₂) E s₁) E s₁) E s)
  (fun Q E h => wpAny_For (eval_Call_any (builtin_ok B cx S.dy.inv hv B.range.1 B.range.2 hd (PyProof.Rows.callWith_type (back_any hck) (evalArgs_any (back_all hck) h)))) fun x => folded_plain rfl x) ?_
 refine SimS.val (P2 := fun vs Q E s₁ => wpAny (model W.prog W.w) A (call (.type "range") vs) (fun x s₁ => wpAny (model W.prog W.w) A (pyIter x) (fun it s₂ => codeAny (model W.prog W.w) A (.forLoop te it body [] F.env) (LK W A F Q E) s₂) E s₁) E s₁) S (hes cp cx S.dy) fun vs ys σ' Φ' h' k e' S' r => ?_
 refine SimS.opt fun items hx => ?_
 intro Q E h1 h2 h3 h4
 cases hds : allD ys with
 | none => rw [hds] at hx; cases hx
 | some ds =>
  rw [hds] at hx
  have rs := r.allD hds
  -- the loop, once the range stands
  have fin : ∀ (a b c : Int) (t u v : Tok) (k' : Nat), Builtin.Range.small a b c = true → Builtin.Range.rangeSize a b c = (items.length : Int) → items = ((List.range items.length).map fun (i : Nat) => PyData.int (a + c * i)) →
    wpAny (model W.prog W.w) A (pyIter (.ref h'.objs.size)) (fun it s₂ => codeAny (model W.prog W.w) A (.forLoop te it body [] F.env) (LK W A F Q E) s₂) E { s with heap := h'.push { cls := .type "range", data := .fields #[.int a t, .int b u, .int c v] }, toks := k' } := by
   intro a b' c t u v k' hsm hsz hit
   refine wpAny_pyIter_range (IsRange.new ..) hsm ?_
   rw [hsz]
   have k1 := push_keep h' { cls := .type "range", data := .fields #[.int a t, .int b' u, .int c v] }
   generalize h'.push { cls := .type "range", data := .fields #[.int a t, .int b' u, .int c v] } = h₁ at k1 ⊢
   have S₁ := S'.step (Step.of_ext k1) (S'.se.inv.ext k1)
   have hn : h₁.get? h₁.objs.size = none := Heap.get?_size h₁
   have hn' : h'.get? h₁.objs.size = none := by
    cases q : h'.get? h₁.objs.size with
    | none => rfl
    | some o => rw [k1 _ o q] at hn; cases hn
   have k2 := push_keep h₁ { cls := .type "range_iterator", data := .fields #[rawInt a, rawInt (items.length : Int), rawInt c] }
   refine for_loop (itr_rg c _) ht hb rfl cx (hb₀ := h') hn' (apart_of S₁ hn) (S₁.se.gone hn) (S₁.step (Step.of_ext k2) (S₁.se.inv.ext k2)) ((Mv.step (Step.of_ext k1)).trans (Mv.step (Step.of_ext k2))) (S₁.se.inv.unfrozen hn) ⟨a, Heap.get?_push_size _ rfl, hit⟩ rfl h1 h2 h3 h4
  rcases range_iff (show rangeOf ds = some items from hx) with ⟨lo, rfl, hlo, hhi, hi⟩ | ⟨lo, rfl, hlo, hhi, hi⟩
  ·obtain ⟨t, rfl⟩ := rdi1 rs
   have hl : items.length = lo.toNat := by rw [hi, List.length_map, List.length_range]
   refine call_range_1 (s := { s with heap := h', toks := k }) (fin 0 lo 1 _ _ _ _ (small_one (by lia) (by lia) (by lia) (by lia)) ?_ ?_)
   ·rw [rsize_one, hl]
   ·rw [hl]; exact hi
  ·obtain ⟨t, u, v, rfl⟩ := rdi3 rs
   have hl : items.length = (lo + 1).toNat := by rw [hi, List.length_map, List.length_range]
   refine call_range_3 (s := { s with heap := h', toks := k }) (by decide) (fin lo (-1) (-1) _ _ _ _ (small_neg hlo hhi) ?_ ?_) (Or.inl (PyProof.noPylong_small (by decide)))
   ·rw [rsize_neg hlo, hl]
   ·rw [hl]; exact hi
end
end Holk
namespace Holk
open PySem PyProof.Rows
noncomputable def vAsg (e : Stmt) : Option {x : Expr × Expr // ∃ p, e = .Assign [x.1] x.2 p} := match e with
 | .Assign [a] b p => some ⟨(a, b), p, rfl⟩
 | _ => none
noncomputable def vAsgL (e : Stmt) : Option {x : Str × List Expr // ∃ q r p, e = .Assign [.Name x.1 q] (.List x.2 r) p} := match e with
 | .Assign [.Name a q] (.List b r) p => some ⟨(a, b), q, r, p, rfl⟩
 | _ => none
noncomputable def vAsgC (e : Stmt) : Option {x : Str × Str × Expr // ∃ q r t p, e = .Assign [.Name x.1 q] (.Call (.Name x.2.1 r) [x.2.2] [] t) p} := match e with
 | .Assign [.Name a q] (.Call (.Name b r) [c] [] t) p => some ⟨(a, b, c), q, r, t, p, rfl⟩
 | _ => none
noncomputable def vAsgD (e : Stmt) : Option {x : Str // ∃ q r p, e = .Assign [.Name x q] (.Dict [] [] r) p} := match e with
 | .Assign [.Name a q] (.Dict [] [] r) p => some ⟨a, q, r, p, rfl⟩
 | _ => none
noncomputable def vAsgS (e : Stmt) : Option {x : Str × Expr × Expr // ∃ q r p, e = .Assign [.Subscript (.Name x.1 q) x.2.1 r] x.2.2 p} := match e with
 | .Assign [.Subscript (.Name a q) b r] c p => some ⟨(a, b, c), q, r, p, rfl⟩
 | _ => none
noncomputable def vApp (e : Stmt) : Option {x : (Str × Str × Expr) × (Pos × Pos) // ∃ q p, e = .Expr (.Call (.Attribute (.Name x.1.1 q) x.1.2.1 x.2.1) [x.1.2.2] [] x.2.2) p} := match e with
 | .Expr (.Call (.Attribute (.Name a q) b r) [c] [] t) p => some ⟨((a, b, c), (r, t)), q, p, rfl⟩
 | _ => none
noncomputable def vExp (e : Stmt) : Option {x : Expr // ∃ p, e = .Expr x p} := match e with
 | .Expr a p => some ⟨a, p, rfl⟩
 | _ => none
noncomputable def vIf (e : Stmt) : Option {x : Expr × List Stmt × List Stmt // ∃ p, e = .If x.1 x.2.1 x.2.2 p} := match e with
 | .If a b c p => some ⟨(a, b, c), p, rfl⟩
 | _ => none
noncomputable def vWhile (e : Stmt) : Option {x : Expr × List Stmt // ∃ p, e = .While x.1 x.2 [] p} := match e with
 | .While a b [] p => some ⟨(a, b), p, rfl⟩
 | _ => none
noncomputable def vFor (e : Stmt) : Option {x : Expr × Expr × List Stmt // ∃ p, e = .For x.1 x.2.1 x.2.2 [] p} := match e with
 | .For a b c [] p => some ⟨(a, b, c), p, rfl⟩
 | _ => none
noncomputable def vForR (e : Stmt) : Option {x : Expr × Str × List Expr × List Stmt // ∃ q r p, e = .For x.1 (.Call (.Name x.2.1 q) x.2.2.1 [] r) x.2.2.2 [] p} := match e with
 | .For a (.Call (.Name b q) c [] r) d [] p => some ⟨(a, b, c, d), q, r, p, rfl⟩
 | _ => none
noncomputable def vRet (e : Stmt) : Option {x : Expr // ∃ p, e = .Return (some x) p} := match e with
 | .Return (some a) p => some ⟨a, p, rfl⟩
 | _ => none
noncomputable def vRaise (e : Stmt) : Option {x : Str // ∃ m k q r t p, e = .Raise (some (.Call (.Name x q) [.Constant (.str m) k r] [] t)) none p} := match e with
 | .Raise (some (.Call (.Name a q) [.Constant (.str m) k r] [] t)) none p => some ⟨a, m, k, q, r, t, p, rfl⟩
 | _ => none
noncomputable def vTry (e : Stmt) : Option {x : (Str × Pos × Expr) × (Str × Str) // ∃ ap ep k cp px ap' hp p, e = .Try [.Assign [.Name x.1.1 x.1.2.1] x.1.2.2 ap] [.ExceptHandler (some (.Name x.2.1 ep)) none [.Assign [.Name x.2.2 px] (.Constant .none k cp) ap'] hp] [] [] p} := match e with
 | .Try [.Assign [.Name a q] b ap] [.ExceptHandler (some (.Name c ep)) none [.Assign [.Name d px] (.Constant .none k cp) ap'] hp] [] [] p => some ⟨((a, q, b), (c, d)), ap, ep, k, cp, px, ap', hp, p, rfl⟩
 | _ => none
noncomputable def isCp : E → Bool
 | .comp .. => true
 | _ => false
theorem isCp_iff {x : E} (h : isCp x = true) : ∃ m elt t it ifs, x = .comp m elt t it ifs := by
 cases x <;> first | exact Bool.noConfusion h | exact ⟨_, _, _, _, _, rfl⟩
noncomputable def vL2 (l : List Str) : Option {x : Str × Str // l = [x.1, x.2]} := match l with
 | [a, b] => some ⟨(a, b), rfl⟩
 | _ => none
noncomputable def vL3 (l : List Str) : Option {x : Str × Str × Str // l = [x.1, x.2.1, x.2.2]} := match l with
 | [a, b, c] => some ⟨(a, b, c), rfl⟩
 | _ => none
noncomputable def vT2 (l : List Tg) : Option {x : Nat × Nat // l = [.var x.1, .var x.2]} := match l with
 | [.var a, .var b] => some ⟨(a, b), rfl⟩
 | _ => none
noncomputable def vT3 (l : List Tg) : Option {x : Nat × Nat × Nat // l = [.var x.1, .var x.2.1, .var x.2.2]} := match l with
 | [.var a, .var b, .var c] => some ⟨(a, b, c), rfl⟩
 | _ => none
noncomputable def ckSw (sc : Sc) (l : List Str) (ts : List Tg) : Bool :=
 (anyS (vL2 l) fun a => anyS (vT2 ts) fun i => sc.isVar i.1 a.1 && (sc.isVar i.2 a.2 && !(i.1 == i.2))) ||
 (anyS (vL3 l) fun a => anyS (vT3 ts) fun i => sc.isVar i.1 a.1 && (sc.isVar i.2.1 a.2.1 && (sc.isVar i.2.2 a.2.2 && (!(i.1 == i.2.1) && (!(i.1 == i.2.2) && !(i.2.1 == i.2.2))))))
theorem ne_of_beq {i j : Nat} (h : (!(i == j)) = true) : i ≠ j := fun q => by subst q; rw [beq_self_eq_true] at h; cases h
noncomputable def ckA (GN FN : List Str) (sc : Sc) (t : Tg) (x : E) (te value : Expr) : Bool := match t with
 | .var i => anyS (vName te) fun id => sc.isVar i id && (noComp value && ((!(swb sc value te) || isCp x) && ckE GN FN sc x value))
 | .tup ts => anyS (vTup te) fun es => ckE GN FN sc x value && (match swp sc es value with
   | none => false
   | some o => match o with
    | none => ckT sc (.tup ts) te
    | some l => ckSw sc l ts)
mutual
noncomputable def ckS (GN FN : List Str) (sc : Sc) : S → Stmt → Bool
 | .assign t x, st => anyS (vAsg st) fun q => ckA GN FN sc t x q.1 q.2
 | .newl i xs, st => anyS (vAsgL st) fun q => sc.isVar i q.1 && (decide (xs.length ≤ 1000) && ckEs GN FN sc xs q.2)
 | .newOf i a, st => anyS (vAsgC st) fun q => sc.isVar i q.1 && (sc.isGlob q.2.1 && ((q.2.1 == ("list" : Str)) && (notStar q.2.2 && ckE GN FN sc a q.2.2)))
 | .newd i, st => anyS (vAsgD st) fun q => sc.isVar i q
 | .setd i k v, st => anyS (vAsgS st) fun q => sc.isVar i q.1 && (ckE GN FN sc k q.2.1 && ckE GN FN sc v q.2.2)
 | .app i x, st => anyS (vApp st) fun q => sc.isVar i q.1.1 && ((q.1.2.1 == ("append" : Str)) && (notStar q.1.2.2 && ((q.2.1.endLine == q.2.2.line) && ckE GN FN sc x q.1.2.2)))
 | .expr x, st => anyS (vExp st) fun e => noLComp e && ckE GN FN sc x e
 | .ite c a b, st => anyS (vIf st) fun q => ckE GN FN sc c q.1 && (ckSs GN FN sc a q.2.1 && ckSs GN FN sc b q.2.2)
 | .whil c b, st => anyS (vWhile st) fun q => ckE GN FN sc c q.1 && ckSs GN FN sc b q.2
 | .fors t e b, st => anyS (vFor st) fun q => notSet q.2.1 && (ckT sc t q.1 && (ckE GN FN sc e q.2.1 && ckSs GN FN sc b q.2.2))
 | .forr i args b, st => anyS (vForR st) fun q => sc.isGlob q.2.1 && ((q.2.1 == ("range" : Str)) && (ckT sc (.var i) q.1 && (ckEs GN FN sc args q.2.2.1 && ckSs GN FN sc b q.2.2.2)))
 | .ret x, st => anyS (vRet st) fun e => ckE GN FN sc x e
 | .raise, st => anyS (vRaise st) fun id => sc.isGlob id && (id == ("ValueError" : Str))
 | .tryv i x, st => anyS (vTry st) fun q => sc.isVar i q.1.1 && ((q.2.2 == q.1.1) && (noComp q.1.2.2 && (!(swb sc q.1.2.2 (.Name q.1.1 q.1.2.1)) && (sc.isGlob q.2.1 && ((q.2.1 == ("ValueError" : Str)) && ckE GN FN sc x q.1.2.2)))))
noncomputable def ckSs (GN FN : List Str) (sc : Sc) : List S → List Stmt → Bool
 | [], sts => sts.isEmpty
 | x :: xs, sts => match sts with
  | st :: r => ckS GN FN sc x st && ckSs GN FN sc xs r
  | [] => false
end
theorem assignC_okC {W : Wd} {n : Nat} {C : CallT} {sc : Sc} {scope : Scope} {ifs : List E} {elt it : E} {t : Tg} {m : Nat} {ee : Expr} {g : Comprehension} {cp pos px : Pos} {i : Nat} {id : Str} (hz : g.is_async = 0) (hm : m = scope.names.length) (hv : sc.isVar i id = true) (hw : swb sc (.ListComp ee [g] scope cp) (.Name id px) = true) (hck : ckScope sc scope = true) (hset : notSet g.iter = true) (hit : OkE W n C sc it g.iter)
  (hi : OkIfs W n C (compSc sc scope) ifs g.ifs) (he : OkE W n C (compSc sc scope) elt ee) (ht : ckT (compSc sc scope) t g.target = true) (htl : tgAll (compLoc (compSc sc scope)) t = true) :
  OkS W n C sc (.assign (.var i) (.comp m elt t it ifs)) (.Assign [.Name id px] (.ListComp ee [g] scope cp) pos) := by
 subst hm
 obtain ⟨t', it', ifs', z⟩ := g
 subst hz
 exact @assignC_okS W n C sc _ ifs elt it t _ _ _ _ _ pos px i id hv hw hck hset hit hi he ht htl
section
variable {W : Wd} {n : Nat} {C : CallT} (B : Base W) (FO : FunsOk W) (hC : CallOk W n C)
include B FO hC
theorem simW {sc : Sc} {x : E} {l : List Str} {ts : List Tg} {es : List Expr} {k : Nat} {px pos : Pos} {value : Expr} (h : ckSw sc l ts = true) (hw : swp sc es value = some (some l)) (hx : OkE W n C sc x value) : OkS W n C sc (.assign (.tup ts) x) (.Assign [.Tuple es k px] value pos) := by
 have g0 := Bool.or_eq_true_iff.mp h
 clear h
 rcases g0 with g | g
 ·replace g := anyS_iff g
  obtain ⟨a, rfl, g⟩ := g
  replace g := anyS_iff g
  obtain ⟨i, rfl, g⟩ := g
  obtain ⟨h1, g⟩ := and2 g
  obtain ⟨h2, g⟩ := and2 g
  exact @swap2_okS W n C sc i.1 i.2 x _ _ es _ px pos value h1 h2 (ne_of_beq g) hw hx
 ·replace g := anyS_iff g
  obtain ⟨a, rfl, g⟩ := g
  replace g := anyS_iff g
  obtain ⟨i, rfl, g⟩ := g
  obtain ⟨h1, g⟩ := and2 g
  obtain ⟨h2, g⟩ := and2 g
  obtain ⟨h3, g⟩ := and2 g
  obtain ⟨h4, g⟩ := and2 g
  obtain ⟨h5, g⟩ := and2 g
  exact @swap3_okS W n C sc i.1 i.2.1 i.2.2 x _ _ _ es _ px pos value h1 h2 h3 (ne_of_beq h4) (ne_of_beq h5) (ne_of_beq g) hw hx
theorem simA {sc : Sc} {t : Tg} {x : E} {te value : Expr} {pos : Pos} (h : ckA W.GN W.FN sc t x te value = true) : OkS W n C sc (.assign t x) (.Assign [te] value pos) := by
 cases t with
 | var i =>
  replace h := anyS_iff h
  obtain ⟨id, ⟨px, rfl⟩, h⟩ := h
  obtain ⟨h1, h⟩ := and2 h
  obtain ⟨h2, h⟩ := and2 h
  obtain ⟨h4, h3⟩ := and2 h
  cases hw : swb sc value (.Name id px) with
  | false => exact @assignN_okS W n C sc i x id px pos value h1 h2 hw (sim B FO hC x sc value h3).1
  | true =>
   rw [hw] at h4
   obtain ⟨m, elt, t, it, ifs, rfl⟩ := isCp_iff h4
   clear h
   replace h3 := anyS_iff h3
   obtain ⟨q, ⟨p, rfl⟩, g⟩ := h3
   obtain ⟨a1, g⟩ := and2 g
   obtain ⟨a2, g⟩ := and2 g
   obtain ⟨a3, g⟩ := and2 g
   obtain ⟨a4, g⟩ := and2 g
   obtain ⟨a5, g⟩ := and2 g
   obtain ⟨a6, g⟩ := and2 g
   obtain ⟨a7, g⟩ := and2 g
   obtain ⟨a8, g⟩ := and2 g
   exact @assignC_okC W n C sc _ ifs elt it t m _ _ p pos px i id (beq_of a1) (beq_of a2) h1 hw a3 a4 (sim B FO hC it sc _ a5).1 (sims B FO hC ifs _ _ a8).ifs (sim B FO hC elt _ _ g).1 a6 a7
 | tup ts =>
  replace h := anyS_iff h
  obtain ⟨es, ⟨k, px, rfl⟩, h⟩ := h
  obtain ⟨h1, h2⟩ := and2 h
  cases hw : swp sc es value with
  | none => rw [hw] at h2; cases h2
  | some o =>
   rw [hw] at h2
   cases o with
   | none => exact @assignT_okS W n C sc ts x es k px pos value h2 hw (sim B FO hC x sc value h1).1
   | some l => exact @simW W n C B FO hC sc x l ts es k px pos value h2 hw (sim B FO hC x sc value h1).1
mutual
theorem simS : ∀ (x : S) (sc : Sc) (st : Stmt), ckS W.GN W.FN sc x st = true → OkS W n C sc x st
 | .assign t x, sc, st, h => by
  replace h := anyS_iff h
  obtain ⟨q, ⟨p, rfl⟩, h⟩ := h
  exact simA B FO hC h
 | .newl i xs, sc, st, h => by
  replace h := anyS_iff h
  obtain ⟨q, ⟨_, _, _, rfl⟩, h⟩ := h
  obtain ⟨h1, h⟩ := and2 h
  obtain ⟨h2, h⟩ := and2 h
  exact newl_okS h1 (of_decide_eq_true h2) (sims B FO hC xs sc _ h).vals
 | .newOf i a, sc, st, h => by
  replace h := anyS_iff h
  obtain ⟨q, ⟨_, _, _, _, rfl⟩, h⟩ := h
  obtain ⟨h1, h⟩ := and2 h
  obtain ⟨h2, h⟩ := and2 h
  obtain ⟨h3, h⟩ := and2 h
  obtain ⟨h4, h⟩ := and2 h
  exact newOf_okS B h1 h2 (beq_of h3) h4 (sim B FO hC a sc _ h).1
 | .newd i, sc, st, h => by
  replace h := anyS_iff h
  obtain ⟨q, ⟨_, _, _, rfl⟩, h⟩ := h
  exact newd_okS h
 | .setd i k v, sc, st, h => by
  replace h := anyS_iff h
  obtain ⟨q, ⟨_, _, _, rfl⟩, h⟩ := h
  obtain ⟨h1, h⟩ := and2 h
  obtain ⟨h2, h⟩ := and2 h
  exact setd_okS h1 (sim B FO hC k sc _ h2).1 (sim B FO hC v sc _ h).1
 | .app i x, sc, st, h => by
  replace h := anyS_iff h
  obtain ⟨q, ⟨_, _, rfl⟩, h⟩ := h
  obtain ⟨h1, h⟩ := and2 h
  obtain ⟨h2, h⟩ := and2 h
  obtain ⟨h3, h⟩ := and2 h
  obtain ⟨h4, h⟩ := and2 h
  exact app_okS h1 (beq_of h2) h3 h4 (sim B FO hC x sc _ h).1
 | .expr x, sc, st, h => by
  replace h := anyS_iff h
  obtain ⟨q, ⟨_, rfl⟩, h⟩ := h
  obtain ⟨h1, h⟩ := and2 h
  exact expr_okS h1 (sim B FO hC x sc _ h).1
 | .ite c a b, sc, st, h => by
  replace h := anyS_iff h
  obtain ⟨q, ⟨_, rfl⟩, h⟩ := h
  obtain ⟨h1, h⟩ := and2 h
  obtain ⟨h2, h⟩ := and2 h
  exact ite_okS (sim B FO hC c sc _ h1).2 (simSs a sc _ h2) (simSs b sc _ h)
 | .whil c b, sc, st, h => by
  replace h := anyS_iff h
  obtain ⟨q, ⟨_, rfl⟩, h⟩ := h
  obtain ⟨h1, h⟩ := and2 h
  exact whil_okS (sim B FO hC c sc _ h1).2 (simSs b sc _ h)
 | .fors t e b, sc, st, h => by
  replace h := anyS_iff h
  obtain ⟨q, ⟨_, rfl⟩, h⟩ := h
  obtain ⟨h1, h⟩ := and2 h
  obtain ⟨h2, h⟩ := and2 h
  obtain ⟨h3, h⟩ := and2 h
  exact fors_okS h1 h2 (sim B FO hC e sc _ h3).1 (simSs b sc _ h)
 | .forr i args b, sc, st, h => by
  replace h := anyS_iff h
  obtain ⟨q, ⟨_, _, _, rfl⟩, h⟩ := h
  obtain ⟨h1, h⟩ := and2 h
  obtain ⟨h2, h⟩ := and2 h
  obtain ⟨h3, h⟩ := and2 h
  obtain ⟨h4, h⟩ := and2 h
  exact forr_okS B h1 (beq_of h2) h3 h4 (sims B FO hC args sc _ h4).vals (simSs b sc _ h)
 | .ret x, sc, st, h => by
  replace h := anyS_iff h
  obtain ⟨q, ⟨_, rfl⟩, h⟩ := h
  exact ret_okS (sim B FO hC x sc _ h).1
 | .raise, sc, st, h => by
  replace h := anyS_iff h
  obtain ⟨q, ⟨_, _, _, _, _, _, rfl⟩, h⟩ := h
  obtain ⟨h1, h⟩ := and2 h
  exact raise_okS B h1 (beq_of h)
 | .tryv i x, sc, st, h => by
  replace h := anyS_iff h
  obtain ⟨q, ⟨_, _, _, _, _, _, _, _, rfl⟩, h⟩ := h
  obtain ⟨h1, h⟩ := and2 h
  obtain ⟨h2, h⟩ := and2 h
  obtain ⟨h3, h⟩ := and2 h
  obtain ⟨h4, h⟩ := and2 h
  obtain ⟨h5, h⟩ := and2 h
  obtain ⟨h6, h⟩ := and2 h
  exact tryv_okS B h1 (beq_of h2) h3 ((Bool.not_eq_true' _).mp h4) h5 (beq_of h6) (sim B FO hC x sc _ h).1
theorem simSs : ∀ (xs : List S) (sc : Sc) (sts : List Stmt), ckSs W.GN W.FN sc xs sts = true → OkSs W n C sc xs sts
 | [], sc, [], h => oks_nil
 | [], sc, _ :: _, h => Bool.noConfusion h
 | x :: xs, sc, [], h => Bool.noConfusion h
 | x :: xs, sc, st :: sts, h => by
  have h := and2 h
  exact oks_cons (simS x sc _ h.1) (simSs xs sc _ h.2)
end
end
end Holk
namespace Holk
open PySem PyProof.Rows
noncomputable def nodupS : List Str → Bool
 | [] => true
 | n :: r => !(r.contains n) && nodupS r
theorem Z142 : nodupS ([]) = (true) := rfl
theorem Z143 : nodupS (n :: r) = (!(r.contains n) && nodupS r) := rfl
theorem nodupS_iff : ∀ {l : List Str}, nodupS l = true → l.Nodup
 | [], _ => List.nodup_nil
 | n :: r, h => by
  simp only [Z142, Z143, Bool.and_eq_true, Bool.not_eq_true'] at h
  refine List.nodup_cons.mpr ⟨fun q => ?_, nodupS_iff h.2⟩
  have := List.contains_iff_mem.mpr q
  rw [h.1] at this; cases this
theorem zip_lookup : ∀ {names : List Str} {vals : List Value} {i : Nat} {x : Str} {v : Value}, names.Nodup → names[i]? = some x → vals[i]? = some v → (names.zip vals).lookup x = some v
 | [], _, _, _, _, _, h, _ => by simp at h
 | y :: names, [], i, _, _, _, _, h => by simp at h
 | y :: names, w :: vals, 0, x, v, hn, h1, h2 => by
  simp at h1 h2; subst h1; subst h2; simp [List.lookup_cons]
 | y :: names, w :: vals, i + 1, x, v, hn, h1, h2 => by
  simp at h1 h2
  rw [List.nodup_cons] at hn
  have : x ≠ y := fun q => hn.1 (q ▸ List.mem_of_getElem? h1)
  have hb : (x == y) = false := by simpa using this
  simp only [List.zip_cons_cons, List.lookup_cons, hb]
  exact zip_lookup hn.2 h1 h2
theorem zip_lookup_mem {names : List Str} {vals : List Value} (hn : names.Nodup) (hl : vals.length = names.length) {x : Str} (hx : x ∈ names) : ∃ v, (names.zip vals).lookup x = some v := by
 obtain ⟨i, hi⟩ := List.getElem?_of_mem hx
 have hlt : i < vals.length := by rw [hl]; exact (List.getElem?_eq_some_iff.mp hi).1
 exact ⟨vals[i], zip_lookup hn hi (by simp [hlt])⟩
theorem zip_filterMap {names : List Str} {vals : List Value} (hn : names.Nodup) (hl : vals.length = names.length) : names.filterMap (fun n => ((names.zip vals).lookup n).map (n, ·)) = names.zip vals := by
 have key : ∀ (pre : List (Str × Value)) (ns : List Str) (vs : List Value), vs.length = ns.length → ((pre.map (·.1)) ++ ns).Nodup → ns.filterMap (fun n => ((pre ++ ns.zip vs).lookup n).map (n, ·)) = ns.zip vs := by
  intro pre ns
  induction ns generalizing pre with
  | nil => intro vs _ _; rfl
  | cons n ns ih =>
   intro vs hl hn
   cases vs with
   | nil => cases hl
   | cons v vs =>
    have hlook : (pre ++ (n, v) :: ns.zip vs).lookup n = some v := by
     have hnot : ∀ p ∈ pre, p.1 ≠ n := fun p hp q => by
      rw [List.nodup_append] at hn
      exact hn.2.2 p.1 (List.mem_map_of_mem hp) n List.mem_cons_self q
     clear ih hn
     induction pre with
     | nil => simp [List.lookup_cons]
     | cons p pre ih' =>
      have : (n == p.1) = false := by simpa using Ne.symm (hnot p List.mem_cons_self)
      rw [List.cons_append]
      obtain ⟨p1, p2⟩ := p
      simp only at this
      rw [List.lookup_cons, this]
      exact ih' fun q hq => hnot q (List.mem_cons_of_mem _ hq)
    simp only [List.zip_cons_cons, List.filterMap_cons, hlook, Option.map_some]
    congr 1
    have := ih (pre ++ [(n, v)]) vs (by simpa using hl) (by simpa using hn)
    simpa using this
 simpa using key [] names vals hl (by simpa using hn)
noncomputable def plainParams (p : Arguments) : Bool := p.posonlyargs.isEmpty && p.vararg.isNone && p.kwonlyargs.isEmpty && p.kwarg.isNone
theorem bind_plain {fd : FuncData} {vals : List Value} (hp : plainParams fd.params = true) (hd : fd.defaults = .none) (hn : (fd.params.args.map (·.arg)).Nodup) (hl : vals.length = (fd.params.args.map (·.arg)).length) :
  bindArgs fd ⟨vals, []⟩ = pure ((fd.params.args.map (·.arg)).zip vals) := by
 obtain ⟨nm, qn, ⟨po, ar, va, ko, kd, ka, df⟩, bd, sc, gl, cl, de, kw, dc, pm, an, co, ct, bu⟩ := fd
 simp only [plainParams, Bool.and_eq_true, List.isEmpty_iff, Option.isNone_iff_eq_none] at hp
 obtain ⟨⟨⟨rfl, rfl⟩, rfl⟩, rfl⟩ := hp
 have hd : de = .none := hd
 subst hd
 have hn : (ar.map (·.arg)).Nodup := hn
 have hl : vals.length = (ar.map (·.arg)).length := hl
 have hm : (((ar.map (·.arg)).take (ar.map (·.arg)).length).filter fun n => (((ar.map (·.arg)).zip vals).lookup n).isNone) = [] := by
  rw [List.take_length, List.filter_eq_nil_iff]
  intro x hx
  obtain ⟨v, hv⟩ := zip_lookup_mem hn hl hx
  simp [hv]
 refine (if_neg (show ¬ (decide (vals.length > (ar.map (·.arg)).length) && true) = true from fun q => by rw [hl] at q; simp at q)).trans ?_
 have hz := zip_filterMap hn hl
 simp only [Option.getD_none, List.map_nil, List.nil_append, List.append_nil, List.forIn_nil, List.length_nil, List.drop_nil, Nat.sub_zero, List.zip_nil_right, pure_bind, List.isEmpty_nil, Bool.not_true, Bool.false_eq_true, if_false, hm, hz]
noncomputable def varsOf (d : DefRec) : List Str := d.params.args.map (·.arg) ++ ((d.scope.names.filter fun (n, k) => (k == .local || k == .cell) && !((d.params.args.map (·.arg)).contains n)).map (·.1))
noncomputable def scOf (d : DefRec) : Sc := ⟨d.scope.names, (varsOf d).map some⟩
noncomputable def ckF (GN FN : List Str) (fd : FD) (d : DefRec) : Bool :=
 plainParams d.params && d.scope.kind == .function && !d.scope.isCoroutine && !d.scope.isGenerator && nodupS (varsOf d) && ((varsOf d).all fun x => d.scope.names.lookup x == some NameKind.local || d.scope.names.lookup x == some NameKind.cell) &&
  fd.npar == d.params.args.length && fd.nloc == (varsOf d).length && ckSs GN FN (scOf d) fd.body d.body
structure Funs (W : Wd) (ds : List DefRec) : Prop where
 fn : ∀ d ∈ ds, ∃ a o pm code doc, W.mg d.name = some (.ref a) ∧ W.h₀.get? a = some o ∧ o.data = .func (Calls.docDef d.name d.params d.body d.scope pm code doc) ∧ W.h₀.CodeRec code d.name
 tab : ∀ (f : Nat) (name : Str), W.FN[f]? = some name → ∃ d ∈ ds, ∃ fd, d.name = name ∧ W.FT[f]? = some fd ∧ ckF W.GN W.FN fd d = true
theorem Funs.ok {W : Wd} {ds : List DefRec} (F : Funs W ds) : FunsOk W := fun f name h => by
 obtain ⟨d, hd, fd, rfl, _, _⟩ := F.tab f name h
 obtain ⟨a, o, pm, code, doc, h1, h2, h3, _⟩ := F.fn d hd
 exact ⟨a, o, _, h1, h2, h3⟩
theorem cellsFrom_mem : ∀ (names : List (Str × NameKind)) (n : Nat) (acc : List (Str × Addr)) (x : Str), ((x, NameKind.cell) ∈ names ∨ ∃ c, (x, c) ∈ acc) → ∃ c, (x, c) ∈ cellsFrom n names acc
 | [], n, acc, x, h => by
  rcases h with h | h
  ·cases h
  ·exact h
 | (y, k) :: r, n, acc, x, h => by
  unfold cellsFrom
  split
  ·rename_i hk
   refine cellsFrom_mem r (n + 1) _ x ?_
   rcases h with h | ⟨c, h⟩
   ·rcases List.mem_cons.mp h with e | h
    ·cases e; exact .inr ⟨n, List.mem_cons_self⟩
    ·exact .inl h
   ·exact .inr ⟨c, List.mem_cons_of_mem _ h⟩
  ·rename_i hk
   refine cellsFrom_mem r n _ x ?_
   rcases h with h | h
   ·rcases List.mem_cons.mp h with e | h
    ·cases e; exact absurd rfl hk
    ·exact .inl h
   ·exact .inr h
theorem cellsFrom_lookup {names : List (Str × NameKind)} {n : Nat} {x : Str} (h : names.lookup x = some .cell) : ∃ c, (cellsFrom n names []).lookup x = some c := by
 obtain ⟨c, hc⟩ := cellsFrom_mem names n [] x (.inl (mem_of_lookup h))
 exact lookup_of_mem hc
theorem bindL_other {kindOf : Str → Option NameKind} : ∀ {binds : List (Str × Value)} {m : Str → Option Value} {x : Str}, (∀ p ∈ binds, p.1 ≠ x) → bindL kindOf binds m x = m x
 | [], _, _, _ => rfl
 | (n, v) :: r, m, x, h => by
  unfold bindL
  rw [bindL_other fun p hp => h p (List.mem_cons_of_mem _ hp)]
  have : x ≠ n := Ne.symm (h (n, v) List.mem_cons_self)
  split <;> simp [this]
theorem bindC_other {kindOf : Str → Option NameKind} : ∀ {binds : List (Str × Value)} {m : Str → Option Value} {x : Str}, (∀ p ∈ binds, p.1 ≠ x) → bindC kindOf binds m x = m x
 | [], _, _, _ => rfl
 | (n, v) :: r, m, x, h => by
  unfold bindC
  rw [bindC_other fun p hp => h p (List.mem_cons_of_mem _ hp)]
  have : x ≠ n := Ne.symm (h (n, v) List.mem_cons_self)
  split <;> simp [this]
theorem zip_ne : ∀ {names : List Str} {vals : List Value} {x : Str}, x ∉ names → ∀ p ∈ names.zip vals, p.1 ≠ x := fun hx p hp q => hx (q ▸ (List.of_mem_zip hp).1)
theorem bindL_at {kindOf : Str → Option NameKind} : ∀ {names : List Str} {vals : List Value} {m : Str → Option Value} {i : Nat} {x : Str} {v : Value}, names.Nodup → names[i]? = some x → vals[i]? = some v → kindOf x = some .local → bindL kindOf (names.zip vals) m x = some v
 | [], _, _, _, _, _, _, h, _, _ => by simp at h
 | y :: names, [], _, _, _, _, _, _, h, _ => by simp at h
 | y :: names, w :: vals, m, 0, x, v, hn, h1, h2, hk => by
  simp at h1 h2; subst h1; subst h2
  rw [List.nodup_cons] at hn
  rw [List.zip_cons_cons]
  unfold bindL
  rw [bindL_other (zip_ne hn.1), if_pos hk]; simp
 | y :: names, w :: vals, m, i + 1, x, v, hn, h1, h2, hk => by
  simp at h1 h2
  rw [List.nodup_cons] at hn
  rw [List.zip_cons_cons]
  unfold bindL
  exact bindL_at hn.2 h1 h2 hk
theorem bindC_at {kindOf : Str → Option NameKind} : ∀ {names : List Str} {vals : List Value} {m : Str → Option Value} {i : Nat} {x : Str} {v : Value}, names.Nodup → names[i]? = some x → vals[i]? = some v → kindOf x ≠ some .local → bindC kindOf (names.zip vals) m x = some v
 | [], _, _, _, _, _, _, h, _, _ => by simp at h
 | y :: names, [], _, _, _, _, _, _, h, _ => by simp at h
 | y :: names, w :: vals, m, 0, x, v, hn, h1, h2, hk => by
  simp at h1 h2; subst h1; subst h2
  rw [List.nodup_cons] at hn
  rw [List.zip_cons_cons]
  unfold bindC
  rw [bindC_other (zip_ne hn.1), if_neg hk]; simp
 | y :: names, w :: vals, m, i + 1, x, v, hn, h1, h2, hk => by
  simp at h1 h2
  rw [List.nodup_cons] at hn
  rw [List.zip_cons_cons]
  unfold bindC
  exact bindC_at hn.2 h1 h2 hk
theorem VRs.get {Φ : Fz} {ρ : List Addr} : ∀ {vs : List Value} {xs : List V} {i : Nat} {x : V}, VRs Φ ρ vs xs → xs[i]? = some x → ∃ v, vs[i]? = some v ∧ VR Φ ρ v x
 | [], [], _, _, _, h => by simp at h
 | [], _ :: _, _, _, r, _ => r.elim
 | _ :: _, [], _, _, r, _ => r.elim
 | v :: vs, y :: xs, 0, x, r, h => by simp at h; subst h; exact ⟨v, by simp, r.1⟩
 | v :: vs, y :: xs, i + 1, x, r, h => by simp at h; obtain ⟨u, h1, h2⟩ := VRs.get r.2 h; exact ⟨u, by simpa using h1, h2⟩
theorem Inv.cut {W : Wd} {Φ : Fz} {ρ r : List Addr} {σ : Store} {h : Heap} (I : Inv W Φ (ρ ++ r) σ h) : Inv W Φ ρ (σ.take ρ.length) h := by
 have hlen := I.len
 rw [List.length_append] at hlen
 refine ⟨I.base, I.frz, by rw [List.length_take]; lia, fun i a c h1 h2 => ?_, (List.nodup_append.mp I.nodup).1, fun a ha => I.apart a (List.mem_append_left _ ha)⟩
 have hi := (List.getElem?_eq_some_iff.mp h1).1
 refine I.cell i a c (by rw [List.getElem?_append_left hi]; exact h1) ?_
 rw [List.getElem?_take] at h2
 rwa [if_pos hi] at h2
end Holk
namespace Holk
open PySem PyProof.Rows
structure CkF (GN FN : List Str) (fd : FD) (d : DefRec) : Prop where
 plain : plainParams d.params = true
 kind : d.scope.kind = .function
 co : d.scope.isCoroutine = false
 gen : d.scope.isGenerator = false
 nodup : (varsOf d).Nodup
 kinds : ∀ x ∈ varsOf d, d.scope.names.lookup x = some .local ∨ d.scope.names.lookup x = some .cell
 npar : fd.npar = d.params.args.length
 nloc : fd.nloc = (varsOf d).length
 body : ckSs GN FN (scOf d) fd.body d.body = true
theorem ckF_iff {GN FN : List Str} {fd : FD} {d : DefRec} (h : ckF GN FN fd d = true) : CkF GN FN fd d := by
 simp only [ckF, Bool.and_eq_true, beq_iff_eq, Bool.not_eq_true', List.all_eq_true, Bool.or_eq_true] at h
 obtain ⟨⟨⟨⟨⟨⟨⟨⟨h1, h2⟩, h3⟩, h4⟩, h5⟩, h6⟩, h7⟩, h8⟩, h9⟩ := h
 exact ⟨h1, h2, h3, h4, nodupS_iff h5, h6, h7, h8, h9⟩
section
variable {W : Wd} {Φ : Fz} {ρ : List Addr} {σ : Store} {s s₁ : Shared}
theorem entry_ok {GN FN : List Str} {fd : FD} {d : DefRec} (ck : CkF GN FN fd d) {fdat : FuncData} (hsc : fdat.scope = d.scope) (hgl : fdat.globals = mainGlobals) {a : Addr} {l : List Env} {vs : List Value} {xs : List V} (I : Inv W Φ ρ σ s.heap) (SO : StackOk l Φ ρ s.heap) (r : VRs Φ ρ vs xs) (hl : xs.length = fd.npar)
  (x : InCallC s (callEnvC fdat s.heap.objs.size a).locals (bindL (callEnvC fdat s.heap.objs.size a).kindOf ((d.params.args.map (·.arg)).zip vs) fun _ => none) (callEnvC fdat s.heap.objs.size a).cells
    (bindC (callEnvC fdat s.heap.objs.size a).kindOf ((d.params.args.map (·.arg)).zip vs) fun _ => none) s₁) :
  SS W ⟨callEnvC fdat s.heap.objs.size a, l, s.heap.objs.size, callEnvC fdat s.heap.objs.size a, scOf d, Φ, s.heap, ρ⟩ Φ ρ σ (xs.map some ++ List.replicate (fd.nloc - fd.npar) none) s₁.heap := by
 have hkeep := x.toInCall.keep
 have hns := x.toInCall.ns
 have hL : s.heap.get? s.heap.objs.size = none := Heap.get?_size _
 have hkind : ∀ y, (callEnvC fdat s.heap.objs.size a).kindOf y = d.scope.names.lookup y := fun y => by show fdat.scope.names.lookup y = _; rw [hsc]
 have hcells : (callEnvC fdat s.heap.objs.size a).cells = cellsFrom (s.heap.objs.size + 1) d.scope.names [] := by show cellsFrom _ fdat.scope.names [] = _; rw [hsc]
 have hloc : (callEnvC fdat s.heap.objs.size a).locals = s.heap.objs.size := rfl
 have hcnew : ∀ y c, (callEnvC fdat s.heap.objs.size a).cells.lookup y = some c → s.heap.get? c = none := fun y c hc => get_fresh (Nat.le_of_lt (x.above y c (mem_of_lookup hc)))
 have I₁ := I.ext hkeep
 have hlive : ∀ b, b ∈ ρ → ∃ o, s.heap.get? b = some o := fun b hb => I.live hb
 refine ⟨⟨I₁, fun env he => ?_, Step.of_ext hkeep, [], by simp, by simp⟩, ⟨⟨_, hns⟩, I.unfrozen hL, (fun q => by obtain ⟨o, e⟩ := hlive _ q; rw [hloc, hL] at e; cases e), fun y c hc => ?_, fun y z c h1 h2 => ?_, fun i y hy => ?_, fun i j y h1 h2 => ?_, ?_⟩, fun b hb => ?_⟩
 ·rcases List.mem_cons.mp he with rfl | he
  ·obtain ⟨o, es, ep, ho, hd, _⟩ := hns
   refine ⟨?_, s.heap.objs.size, o, rfl, ho, fun vs q => (by rw [hd] at q; cases q), I.unfrozen hL, fun q => ?_⟩
   ·show fdat.scope.kind ≠ .module
    rw [hsc, ck.kind]; decide
   ·obtain ⟨o', e⟩ := hlive _ q; rw [hL] at e; cases e
  ·obtain ⟨k, L', o, p1, p2, p3, p4, p5⟩ := SO env he
   exact ⟨k, L', o, p1, hkeep _ _ p2, p3, p4, p5⟩
 ·have hn := hcnew y c hc
  refine ⟨⟨_, x.cell y c hc⟩, I.unfrozen hn, fun q => ?_, Nat.ne_of_gt (x.above y c (mem_of_lookup hc))⟩
  obtain ⟨o, e⟩ := hlive _ q; rw [hn] at e; cases e
 ·exact name_of_addr x.apart (mem_of_lookup h1) (mem_of_lookup h2)
 ·have hy' : (varsOf d)[i]? = some y := by
   have : ((varsOf d).map some)[i]? = some (some y) := hy
   rw [List.getElem?_map] at this
   cases q : (varsOf d)[i]? with
   | none => rw [q] at this; cases this
   | some z => rw [q] at this; simp at this; rw [this]
  have hmem : y ∈ varsOf d := List.mem_of_getElem? hy'
  have hpn : (d.params.args.map (·.arg)).Nodup := (List.nodup_append.mp ck.nodup).1
  have hvl := r.length
  -- the value of a parameter
  have par : ∀ v, (xs.map some ++ List.replicate (fd.nloc - fd.npar) none)[i]? = some (some v) → (d.params.args.map (·.arg))[i]? = some y ∧ ∃ u, vs[i]? = some u ∧ VR Φ ρ u v := fun v hv => by
   by_cases hi : i < xs.length
   ·rw [List.getElem?_append_left (by simpa using hi), List.getElem?_map] at hv
    cases q : xs[i]? with
    | none => rw [q] at hv; cases hv
    | some z =>
     rw [q] at hv; simp at hv; subst hv
     refine ⟨?_, r.get q⟩
     unfold varsOf at hy'
     rwa [List.getElem?_append_left (by rw [List.length_map, ← ck.npar, ← hl]; exact hi)] at hy'
   ·rw [List.getElem?_append_right (by simp; lia), List.getElem?_replicate] at hv
    split at hv <;> cases hv
  rcases ck.kinds y hmem with hk | hk
  ·refine ⟨_, .loc ((hkind y).trans hk) _ hns rfl, fun v hv => ?_⟩
   obtain ⟨p1, u, p2, p3⟩ := par v hv
   exact ⟨u, bindL_at hpn p1 p2 ((hkind y).trans hk), p3⟩
  ·obtain ⟨c, hc⟩ := cellsFrom_lookup (n := s.heap.objs.size + 1) hk
   rw [← hcells] at hc
   refine ⟨_, .cel ((hkind y).trans hk) c hc (x.cell y c hc), fun v hv => ?_⟩
   obtain ⟨p1, u, p2, p3⟩ := par v hv
   exact ⟨u, bindC_at hpn p1 p2 (by rw [hkind y, hk]; decide), p3⟩
 ·have e1 : (varsOf d)[i]? = some y := by
   have : ((varsOf d).map some)[i]? = some (some y) := h1
   simpa [List.getElem?_map] using this
  have e2 : (varsOf d)[j]? = some y := by
   have : ((varsOf d).map some)[j]? = some (some y) := h2
   simpa [List.getElem?_map] using this
  exact (List.getElem?_inj (List.getElem?_eq_some_iff.mp e1).1 ck.nodup).mp (e1.trans e2.symm)
 ·show (xs.map some ++ List.replicate (fd.nloc - fd.npar) none).length = ((varsOf d).map some).length
  have : d.params.args.length ≤ (varsOf d).length := by unfold varsOf; simp
  have h1 := ck.npar
  have h2 := ck.nloc
  simp only [List.length_append, List.length_map, List.length_replicate]
  lia
 ·rcases hb with rfl | ⟨y, hc⟩
  ·exact hL
  ·exact hcnew y b hc
theorem kp_cut {env : Env} {l : List Env} {X : Addr → Prop} {h h' : Heap} {L : Addr} (hf : env.frame = some L) (hL : h.get? L = none) (k : Kp X (frs (env :: l)) h h') : Kp X (frs l) h h' := by
 refine k.mono' (fun _ _ _ q => q) fun a o e hx q => ?_
 obtain ⟨env', he', hf'⟩ := List.mem_filterMap.mp q
 rcases List.mem_cons.mp he' with rfl | he'
 ·rw [hf] at hf'; cases hf'; rw [hL] at e; cases e
 ·exact List.mem_filterMap.mpr ⟨env', he', hf'⟩
theorem Thrown.cut {r : List Addr} {L : Addr} {h h' : Heap} {e : Addr} {c : Bool} (T : Thrown Φ (ρ ++ r) L h h' e c) : Thrown Φ ρ L h h' e c := by
 obtain ⟨a, b, d, oe, vs, h1, h2, h3, h4⟩ := T
 refine ⟨a, b, fun q => d (List.mem_append_left _ q), oe, vs, h1, h2, h3, ?_⟩
 cases h4 with
 | none q z => exact .none q z
 | some a b c d e f g k => exact .some a b c d (fun q => e (List.mem_append_left _ q)) f g k
end
theorem callF_ok {W : Wd} {ds : List DefRec} (B : Base W) (FN : Funs W ds) : ∀ n, CallOk W n (callF W.FT W.G n)
 | 0 => by
  intro f name a hf hm A l L ρ Φ σ s vs xs _ _ _ _ _ _ _
  exact SimP.stuck
 | n + 1 => by
  have ih := callF_ok B FN n
  intro f name a hf hm A l L ρ Φ σ s vs xs hfr hh hdep hun I SO r
  obtain ⟨d, hd, fd, rfl, hft, hck⟩ := FN.tab f name hf
  have ck := ckF_iff hck
  obtain ⟨a', o, pm, code, doc, h1, h2, h3, h4⟩ := FN.fn d hd
  rw [hm] at h1; cases h1
  show SimP W l L ρ _ Φ s (match W.FT[f]? with
   | some fd => if xs.length = fd.npar then close σ.length (exSs W.G (callF W.FT W.G n) fd.body (xs.map some ++ List.replicate (fd.nloc - fd.npar) none) σ) else .stuck
   | none => .stuck) _
  rw [hft]
  refine SimP.ite (fun hl => ?_) fun _ => .stuck
  intro Q E hns hok herr
  have hpl : vs.length = (d.params.args.map (·.arg)).length := by rw [r.length, hl, ck.npar, List.length_map]
  have hpn : (d.params.args.map (·.arg)).Nodup := (List.nodup_append.mp ck.nodup).1
  have hL : s.heap.get? s.heap.objs.size = none := Heap.get?_size _
  refine wpAny_call (codeAny_call_cells (by lia) (I.keeps a o h2) h3 (B.nolimit.keeps I.keeps) (h4.keeps I.keeps) rfl (bind_plain (fd := Calls.docDef d.name d.params d.body d.scope pm code doc) ck.plain rfl hpn hpl) rfl (fun y hy => ?_) (fun s₁ x => ?_) ck.co ck.gen ck.kind)
  ·have hy' : y.1 ∈ varsOf d := List.mem_append_left _ (List.of_mem_zip hy).1
   rcases ck.kinds y.1 hy' with hk | hk
   ·exact .inl hk
   ·obtain ⟨c, hc⟩ := cellsFrom_lookup (n := s.heap.objs.size + 1) hk
    exact .inr ⟨hk, by show ((cellsFrom _ d.scope.names []).lookup y.1).isSome = true; rw [hc]; rfl⟩
  ·have S := entry_ok ck (fdat := Calls.docDef d.name d.params d.body d.scope pm code doc) rfl rfl I SO r hl x
   obtain ⟨h', tk, rfl⟩ := x.toInCall.same
   have cx : Cx W n (A.deeper (callEnvC (Calls.docDef d.name d.params d.body d.scope pm code doc) s.heap.objs.size a)) (callEnvC (Calls.docDef d.name d.params d.body d.scope pm code doc) s.heap.objs.size a) l s.heap.objs.size (callEnvC (Calls.docDef d.name d.params d.body d.scope pm code doc) s.heap.objs.size a) (scOf d) := by
    refine ⟨?_, rfl, rfl, hh, ?_, ?_, ck.kind, rfl, rfl, rfl⟩
    ·show A.frames.map _ = _; rw [hfr]; rfl
    ·show A.depth + 1 + n < recursionLimit; lia
    ·show A.units + 3 + 3 * n + 1100 < cLine; lia
   generalize henv : callEnvC (Calls.docDef d.name d.params d.body d.scope pm code doc) s.heap.objs.size a = env at S cx x ⊢
   have hf0 : env.frame = some s.heap.objs.size := cx.f
   have hlen : ρ.length = σ.length := I.len
   refine simSs B FN.ok ih fd.body (scOf d) d.body ck.body (F := ⟨env, l, s.heap.objs.size, env, scOf d, Φ, s.heap, ρ⟩) (s := { s with heap := h', toks := tk }) rfl cx S _ _ ?_ ?_ ?_ ?_
   ·intro q; exact hns (by rw [q]; rfl)
   ·intro fr' σ' Φ' ρ' h'' k e S' M
    obtain ⟨r', hr', _⟩ := S'.se.pre
    have I' := S'.se.inv
    rw [show ρ' = ρ ++ r' from hr'] at I'
    have I'' := I'.cut
    rw [hlen] at I''
    exact hok .none (.d .none) (σ'.take σ.length) Φ' h'' k (by rw [e]; rfl) I'' ⟨S'.se.st.ext, S'.se.st.fresh, kp_cut hf0 hL S'.se.st.kp⟩ RD.none
   ·intro u v σ' Φ' ρ' h'' k e S' rv
    obtain ⟨r', hr', hnew⟩ := S'.pre
    have hr'' : ρ' = ρ ++ r' := hr'
    subst hr''
    have I' := S'.inv
    have I'' := I'.cut
    rw [hlen] at I''
    have St : Step ρ (frs l) Φ s.heap Φ' h'' := ⟨S'.st.ext, S'.st.fresh, kp_cut hf0 hL S'.st.kp⟩
    cases v with
    | d y => exact hok u (.d y) (σ'.take σ.length) Φ' h'' k (by rw [e]; rfl) I'' St rv
    | loc m =>
     obtain ⟨b, hb, rfl⟩ := rv
     by_cases hm' : m < σ.length
     ·refine hok (.ref b) (.loc m) (σ'.take σ.length) Φ' h'' k (by rw [e]; simp [close, hm']) I'' St ⟨b, ?_, rfl⟩
      rwa [List.getElem?_append_left (by lia)] at hb
     ·cases hq : σ'[m]? with
      | none => exfalso; apply hns; rw [e]; simp [close, hm', hq]
      | some c =>
       cases c with
       | dct kvs => exfalso; apply hns; rw [e]; simp [close, hm', hq]
       | lst ys =>
        obtain ⟨ws, mm, hg, rs⟩ := I'.cell m b _ hb hq
        have hbr : b ∈ r' := by
         rw [List.getElem?_append_right (by lia)] at hb
         exact List.mem_of_getElem? hb
        have hbn : s.heap.get? b = none := hnew b hbr
        have hbΦ : Φ' b = none := I'.apart b (List.mem_append_right _ hbr)
        have hbρ : b ∉ ρ := fun q => (List.nodup_append.mp I'.nodup).2.2 b q b hbr rfl
        have hext : ∀ a o, Φ' a = some o → (Φ'.add b (lstO ws mm)) a = some o := fun a o q => by
         have : a ≠ b := by rintro rfl; rw [hbΦ] at q; cases q
         simp [Fz.add, this, q]
        refine hok (.ref b) (.d (.list ys)) (σ'.take σ.length) (Φ'.add b (lstO ws mm)) h'' k (by rw [e]; simp [close, hm', hq]) ?_ ?_ (RD.list (Fz.add_self ..) (rs.mono hext))
        ·refine ⟨fun a o q => hext a o (I''.base a o q), fun a o q => ?_, I''.len, fun i a c p1 p2 => (I''.cell i a c p1 p2).mono hext fun _ q => q, I''.nodup, fun a ha => ?_⟩
         ·by_cases z : a = b
          ·subst z; simp [Fz.add] at q; subst q; exact hg
          ·simp [Fz.add, z] at q; exact I''.frz a o q
         ·have : a ≠ b := by rintro rfl; exact hbρ ha
          simp [Fz.add, this, I''.apart a ha]
        ·refine ⟨fun a o q => hext a o (St.ext a o q), fun a o q => ?_, St.kp⟩
         have : a ≠ b := by rintro rfl; rw [hbn] at q; cases q
         simp [Fz.add, this, St.fresh a o q]
   ·intro e σ' Φ' ρ' h'' k q S' T
    obtain ⟨r', hr', _⟩ := S'.pre
    have hr'' : ρ' = ρ ++ r' := hr'
    subst hr''
    refine leave_ok (s := { s with heap := h'', toks := k }) (h := s.heap) (X := (· ∈ ρ)) cx.frames cx.f0 cx.f rfl S'.stk S'.inv S'.st.kp T fun h₃ I₃ K₃ SO₃ T₃ => ?_
    have I'' := I₃.cut
    rw [hlen] at I''
    exact herr e (σ'.take σ.length) Φ' h₃ k (by rw [q]; rfl) I'' ⟨S'.st.ext, S'.st.fresh, kp_cut hf0 hL K₃⟩ (T₃ L).cut
end Holk
local macro_rules
 | `(Dv $x) => `(some (.d $x))
 | `(Iv $x) => `(some (.d (.int $x)))
 | `(Qi $x) => `(.con (.int $x))
 | `(Qs $x) => `(.con (.str ($(Lean.mkIdent `Holk.st) $x)))
 | `(Qx $x $y) => `(.idx (.var $x) (.con (.int $y)))
namespace Holk
open PySem
noncomputable def tbl : List String := ["holk.core", "bool", "fun", "var", "const", "=", "abs", "comb", "bound", "'", "any", "refl", "assume", "antisym", "eqmp", "trans", "beta", "inst", "insttype", "define", "law_sx_r026_1", "ind", "x", "y", "x'", "K", "L", "''", "outer", "inner", "f", "g", "sym", "c", "", "a", "b", "n", "M", "N", "law_sx_r026_3", "z", "p", "app", "lam", "equ", "NNNNK=NNNNN"]
noncomputable def st (i : Nat) : Str := Str.ofString (tbl.getD i "")
noncomputable def b0 : List S := [.ret (.tup [(Qs 2), (.var 0), (.var 1)])]
noncomputable def f0 : FD := ⟨2, 2, b0⟩
noncomputable def b1 : List S := [.assign (.var 1) (Qx 0 0), .ite (.cmp .eq (.var 1) (Qs 3)) [.ret (Qx 0 2)] [], .ite (.cmp .eq (.var 1) (Qs 4)) [.assign (.var 2) (Qx 0 2), .ite (.and [(.cmp .eq (Qx 0 1) (Qs 5)), (.not (.and [(.cmp .eq (Qx 2 0) (Qs 2)), (.cmp .eq (Qx 2 2) (.call 0 [(Qx 2 1), (.glob 0)]))]))]) [.raise] [], .ret (.var 2)] [], .ite (.cmp .eq (.var 1) (Qs 6)) [.ret (.call 0 [(.idx (Qx 0 1) (Qi 2)), (.call 1 [(Qx 0 2)])])] [], .assign (.var 3) (.call 1 [(Qx 0 1)]), .assign (.var 4) (.call 1 [(Qx 0 2)]), .ite (.or [(.cmp .ne (Qx 3 0) (Qs 2)), (.cmp .ne (Qx 3 1) (.var 4))]) [.raise] [], .ret (Qx 3 2)]
noncomputable def f1 : FD := ⟨1, 5, b1⟩
noncomputable def b2 : List S := [.ite (.cmp .eq (Qx 0 0) (Qs 3)) [.ite (.and [(.cmp .nmem (.var 0) (.var 1)), (.cmp .nmem (.var 0) (.var 2))]) [.app 2 (.var 0)] []] [.ite (.cmp .eq (Qx 0 0) (Qs 7)) [.expr (.call 2 [(Qx 0 1), (.var 1), (.var 2)]), .expr (.call 2 [(Qx 0 2), (.var 1), (.var 2)])] [.ite (.cmp .eq (Qx 0 0) (Qs 6)) [.expr (.call 2 [(Qx 0 2), (.bin .add (.var 1) (.lst [(Qx 0 1)])), (.var 2)])] []]]]
noncomputable def f2 : FD := ⟨3, 3, b2⟩
noncomputable def b3 : List S := [.newl 1 [], .expr (.call 2 [(.var 0), (.lst []), (.var 1)]), .ret (.var 1)]
noncomputable def f3 : FD := ⟨1, 2, b3⟩
noncomputable def b4 : List S := [.ite (.cmp .eq (Qx 0 0) (Qs 3)) [.forr 2 [(.bin .sub (.len (.var 1)) (Qi 1)), (.neg (Qi 1)), (.neg (Qi 1))] [.ite (.cmp .eq (.idx (.var 1) (.var 2)) (.var 0)) [.ret (.tup [(Qs 8), (.var 2)])] []], .ret (.var 0)] [], .ite (.cmp .eq (Qx 0 0) (Qs 4)) [.ret (.var 0)] [], .ite (.cmp .eq (Qx 0 0) (Qs 7)) [.ret (.tup [(Qs 7), (.call 4 [(Qx 0 1), (.var 1)]), (.call 4 [(Qx 0 2), (.var 1)])])] [], .ret (.tup [(Qs 6), (.idx (Qx 0 1) (Qi 2)), (.call 4 [(Qx 0 2), (.bin .add (.var 1) (.lst [(Qx 0 1)]))])])]
noncomputable def f4 : FD := ⟨2, 3, b4⟩
noncomputable def b5 : List S := [.ret (.cmp .eq (.call 4 [(.var 0), (.lst [])]) (.call 4 [(.var 1), (.lst [])]))]
noncomputable def f5 : FD := ⟨2, 2, b5⟩
noncomputable def b6 : List S := [.ite (.or [(.cmp .eq (.len (.var 0)) (Qi 0)), (.cmp .eq (Qx 1 0) (Qs 4))]) [.ret (.var 1)] [], .ite (.cmp .eq (Qx 1 0) (Qs 3)) [.fors (.tup [(.var 2), (.var 3)]) (.var 0) [.ite (.cmp .eq (.var 2) (.var 1)) [.ret (.var 3)] []], .ret (.var 1)] [], .ite (.cmp .eq (Qx 1 0) (Qs 7)) [.ret (.tup [(Qs 7), (.call 6 [(.var 0), (Qx 1 1)]), (.call 6 [(.var 0), (Qx 1 2)])])] [], .assign (.var 2) (Qx 1 1), .assign (.var 4) (.call 3 [(Qx 1 2)]), .newl 5 [], .assign (.var 6) (.con (.bool false)), .assign (.var 8) (.comp 2 (Qx 13 1) (.var 13) (.var 4) []), .fors (.tup [(.var 7), (.var 3)]) (.var 0) [.ite (.and [(.cmp .ne (.var 7) (.var 2)), (.cmp .mem (.var 7) (.var 4))]) [.app 5 (.tup [(.var 7), (.var 3)]), .assign (.var 9) (.call 3 [(.var 3)]), .ite (.cmp .mem (.var 2) (.var 9)) [.assign (.var 6) (.con (.bool true))] [], .assign (.var 8) (.bin .add (.var 8) (.comp 2 (Qx 13 1) (.var 13) (.var 9) []))] []], .ite (.var 6) [.assign (.var 10) (Qx 2 1), .whil (.cmp .mem (.var 10) (.var 8)) [.assign (.var 10) (.bin .add (.var 10) (Qs 9))], .assign (.var 11) (.tup [(Qs 3), (.var 10), (Qx 2 2)]), .app 5 (.tup [(.var 2), (.var 11)]), .assign (.var 2) (.var 11)] [], .ret (.tup [(Qs 6), (.var 2), (.call 6 [(.var 5), (Qx 1 2)])])]
noncomputable def f6 : FD := ⟨2, 12, b6⟩
noncomputable def b7 : List S := [.fors (.tup [(.var 2), (.var 3)]) (.var 0) [.ite (.cmp .ne (.call 1 [(.var 3)]) (Qx 2 2)) [.raise] []], .ret (.call 6 [(.toLst (.var 0)), (.var 1)])]
noncomputable def f7 : FD := ⟨2, 4, b7⟩
noncomputable def b8 : List S := [.assign (.var 2) (.call 1 [(.var 0)]), .ret (.tup [(Qs 7), (.tup [(Qs 7), (.tup [(Qs 4), (Qs 5), (.call 0 [(.var 2), (.call 0 [(.var 2), (.glob 0)])])]), (.var 0)]), (.var 1)])]
noncomputable def f8 : FD := ⟨2, 3, b8⟩
noncomputable def b9 : List S := [.ret (.and [(.cmp .eq (Qx 0 0) (Qs 7)), (.cmp .eq (.idx (Qx 0 1) (Qi 0)) (Qs 7)), (.cmp .eq (.idx (.idx (Qx 0 1) (Qi 1)) (Qi 0)) (Qs 4)), (.cmp .eq (.idx (.idx (Qx 0 1) (Qi 1)) (Qi 1)) (Qs 5))])]
noncomputable def f9 : FD := ⟨1, 1, b9⟩
noncomputable def b10 : List S := [.ite (.not (.call 9 [(.var 0)])) [.raise] [], .ret (.tup [(.idx (Qx 0 1) (Qi 2)), (Qx 0 2)])]
noncomputable def f10 : FD := ⟨1, 1, b10⟩
noncomputable def b11 : List S := [.fors (.var 2) (.var 1) [.ite (.call 5 [(.var 0), (.var 2)]) [.ret (.con (.bool true))] []], .ret (.con (.bool false))]
noncomputable def f11 : FD := ⟨2, 3, b11⟩
noncomputable def b12 : List S := [.newOf 2 (.var 0), .fors (.var 3) (.var 1) [.ite (.not (.call 11 [(.var 3), (.var 2)])) [.app 2 (.var 3)] []], .ret (.toTup (.var 2))]
noncomputable def f12 : FD := ⟨2, 4, b12⟩
noncomputable def b13 : List S := [.ret (.toTup (.comp 4 (.var 3) (.var 3) (.var 0) [(.not (.call 5 [(.var 1), (.var 3)]))]))]
noncomputable def f13 : FD := ⟨2, 2, b13⟩
noncomputable def b14 : List S := [.ite (.cmp .eq (Qx 0 0) (Qs 3)) [.ite (.cmp .nmem (.var 0) (.var 1)) [.app 1 (.var 0)] []] [.ite (.cmp .eq (Qx 0 0) (Qs 7)) [.expr (.call 14 [(Qx 0 1), (.var 1)]), .expr (.call 14 [(Qx 0 2), (.var 1)])] [.ite (.cmp .eq (Qx 0 0) (Qs 6)) [.ite (.cmp .nmem (Qx 0 1) (.var 1)) [.app 1 (Qx 0 1)] [], .expr (.call 14 [(Qx 0 2), (.var 1)])] []]]]
noncomputable def f14 : FD := ⟨2, 2, b14⟩
noncomputable def b15 : List S := [.ite (.cmp .eq (Qx 1 0) (Qs 10)) [.fors (.tup [(.var 2), (.var 3)]) (.var 0) [.ite (.cmp .eq (.var 2) (Qx 1 1)) [.ret (.var 3)] []], .ret (.var 1)] [], .ite (.cmp .eq (Qx 1 0) (Qs 2)) [.ret (.call 0 [(.call 15 [(.var 0), (Qx 1 1)]), (.call 15 [(.var 0), (Qx 1 2)])])] [], .ret (.var 1)]
noncomputable def f15 : FD := ⟨2, 4, b15⟩
noncomputable def b16 : List S := [.ite (.cmp .mem (Qx 1 0) (.tup [(Qs 3), (Qs 4)])) [.ret (.tup [(Qx 1 0), (Qx 1 1), (.call 15 [(.var 0), (Qx 1 2)])])] [], .ret (.tup [(Qx 1 0), (.call 16 [(.var 0), (Qx 1 1)]), (.call 16 [(.var 0), (Qx 1 2)])])]
noncomputable def f16 : FD := ⟨2, 2, b16⟩
noncomputable def b17 : List S := [.ite (.cmp .eq (Qx 0 0) (Qs 2)) [.ret (.or [(.call 17 [(Qx 0 1)]), (.call 17 [(Qx 0 2)])])] [], .ret (.cmp .eq (Qx 0 0) (Qs 10))]
noncomputable def f17 : FD := ⟨1, 1, b17⟩
noncomputable def b18 : List S := [.ite (.cmp .mem (Qx 0 0) (.tup [(Qs 3), (Qs 4)])) [.ret (.call 17 [(Qx 0 2)])] [], .ret (.or [(.call 18 [(Qx 0 1)]), (.call 18 [(Qx 0 2)])])]
noncomputable def f18 : FD := ⟨1, 1, b18⟩
noncomputable def b19 : List S := [.ite (.and [(.cmp .eq (Qx 1 0) (Qs 4)), (.cmp .ne (Qx 1 1) (Qs 5))]) [.ite (.or [(.dHas true (Qx 1 1) 0), (.cmp .ne (.dGet 0 (Qx 1 1)) (Qx 1 2))]) [.raise] []] [], .ite (.cmp .eq (Qx 1 0) (Qs 7)) [.expr (.call 19 [(.var 0), (Qx 1 1)]), .expr (.call 19 [(.var 0), (Qx 1 2)])] [], .ite (.cmp .eq (Qx 1 0) (Qs 6)) [.expr (.call 19 [(.var 0), (Qx 1 2)])] []]
noncomputable def f19 : FD := ⟨2, 2, b19⟩
noncomputable def b20 : List S := [.expr (.call 19 [(.var 0), (.var 1)]), .ret (.call 1 [(.var 1)])]
noncomputable def f20 : FD := ⟨2, 2, b20⟩
noncomputable def b21 : List S := [.ite (.or [(.cmp .lt (.var 1) (Qi 0)), (.cmp .ge (.var 1) (.len (.var 0)))]) [.raise] [], .ret (.idx (.var 0) (.var 1))]
noncomputable def f21 : FD := ⟨2, 2, b21⟩
noncomputable def b22 : List S := [.ite (.cmp .eq (.var 0) (Qs 11)) [.expr (.call 20 [(.var 2), (Qx 1 1)]), .ret (.tup [(.tup []), (.call 8 [(Qx 1 1), (Qx 1 1)])])] [], .ite (.cmp .eq (.var 0) (Qs 12)) [.ite (.cmp .ne (.call 20 [(.var 2), (Qx 1 1)]) (.glob 0)) [.raise] [], .ret (.tup [(.tup [(Qx 1 1)]), (Qx 1 1)])] [], .expr (.call 20 [(.var 2), (Qx 1 2)]), .ret (.tup [(.tup []), (.call 8 [(.tup [(Qs 7), (.tup [(Qs 6), (Qx 1 1), (Qx 1 2)]), (Qx 1 1)]), (Qx 1 2)])])]
noncomputable def f22 : FD := ⟨3, 3, b22⟩
noncomputable def b23 : List S := [.assign (.var 3) (.call 12 [(Qx 1 0), (Qx 2 0)]), .ite (.cmp .eq (.var 0) (Qs 13)) [.ret (.tup [(.call 12 [(.call 13 [(Qx 1 0), (Qx 2 1)]), (.call 13 [(Qx 2 0), (Qx 1 1)])]), (.call 8 [(Qx 1 1), (Qx 2 1)])])] [], .assign (.tup [(.var 4), (.var 5)]) (.call 10 [(Qx 1 1)]), .ite (.cmp .eq (.var 0) (Qs 14)) [.ite (.not (.call 5 [(.var 4), (Qx 2 1)])) [.raise] [], .ret (.tup [(.var 3), (.var 5)])] [], .assign (.tup [(.var 6), (.var 7)]) (.call 10 [(Qx 2 1)]), .ite (.cmp .eq (.var 0) (Qs 15)) [.ite (.not (.call 5 [(.var 5), (.var 6)])) [.raise] [], .ret (.tup [(.var 3), (.call 8 [(.var 4), (.var 7)])])] [], .ret (.tup [(.var 3), (.call 8 [(.tup [(Qs 7), (.var 4), (.var 6)]), (.tup [(Qs 7), (.var 5), (.var 7)])])])]
noncomputable def f23 : FD := ⟨3, 8, b23⟩
noncomputable def b24 : List S := [.assign (.tup [(.var 2), (.var 3)]) (.call 10 [(Qx 1 1)]), .fors (.var 4) (Qx 1 0) [.ite (.cmp .mem (.var 0) (.call 3 [(.var 4)])) [.raise] []], .ret (.tup [(Qx 1 0), (.call 8 [(.tup [(Qs 6), (.var 0), (.var 2)]), (.tup [(Qs 6), (.var 0), (.var 3)])])])]
noncomputable def f24 : FD := ⟨2, 5, b24⟩
noncomputable def b25 : List S := [.newl 2 [], .fors (.var 3) (Qx 1 0) [.expr (.call 14 [(.var 3), (.var 2)])], .expr (.call 14 [(Qx 1 1), (.var 2)]), .newl 4 [], .fors (.var 5) (.var 2) [.assign (.var 6) (.call 16 [(.var 0), (.var 5)]), .ite (.cmp .mem (.var 6) (.var 4)) [.raise] [], .app 4 (.var 6)], .ret (.tup [(.call 12 [(.tup []), (.comp 4 (.call 16 [(.var 0), (.var 8)]) (.var 8) (Qx 1 0) [])]), (.call 16 [(.var 0), (Qx 1 1)])])]
noncomputable def f25 : FD := ⟨2, 7, b25⟩
noncomputable def b26 : List S := [.newl 1 [], .newd 2, .fors (.var 3) (.var 0) [.assign (.var 4) (Qx 3 0), .ite (.cmp .mem (.var 4) (.tup [(Qs 11), (Qs 12), (Qs 16)])) [.assign (.var 5) (.call 22 [(.var 4), (.var 3), (.var 2)])] [.ite (.cmp .mem (.var 4) (.tup [(Qs 15), (Qs 7), (Qs 14), (Qs 13)])) [.assign (.var 5) (.call 23 [(.var 4), (.call 21 [(.var 1), (Qx 3 1)]), (.call 21 [(.var 1), (Qx 3 2)])])] [.ite (.cmp .eq (.var 4) (Qs 6)) [.assign (.var 5) (.call 24 [(Qx 3 1), (.call 21 [(.var 1), (Qx 3 2)])])] [.ite (.cmp .eq (.var 4) (Qs 17)) [.assign (.var 6) (.call 21 [(.var 1), (Qx 3 2)]), .fors (.tup [(.var 7), (.var 8)]) (Qx 3 1) [.expr (.call 20 [(.var 2), (.var 8)])], .assign (.var 5) (.tup [(.call 12 [(.tup []), (.comp 4 (.call 7 [(Qx 3 1), (.var 11)]) (.var 11) (Qx 6 0) [])]), (.call 7 [(Qx 3 1), (Qx 6 1)])])] [.ite (.cmp .eq (.var 4) (Qs 18)) [.assign (.var 5) (.call 25 [(Qx 3 1), (.call 21 [(.var 1), (Qx 3 2)])])] [.ite (.cmp .eq (.var 4) (Qs 19)) [.assign (.var 9) (.call 20 [(.var 2), (Qx 3 2)]), .ite (.or [(.cmp .eq (Qx 3 1) (Qs 5)), (.dHas false (Qx 3 1) 2), (.cmp .gt (.len (.call 3 [(Qx 3 2)])) (Qi 0)), (.call 18 [(Qx 3 2)])]) [.raise] [], .setd 2 (Qx 3 1) (.var 9), .assign (.var 5) (.tup [(.tup []), (.call 8 [(.tup [(Qs 4), (Qx 3 1), (.var 9)]), (Qx 3 2)])])] [.raise]]]]]], .app 1 (.var 5)], .ret (.var 1)]
noncomputable def f26 : FD := ⟨1, 10, b26⟩
noncomputable def b27 : List S := [.ret (.tup [(Qs 7), (.tup [(Qs 7), (.tup [(Qs 4), (Qs 5), (.tup [(Qs 2), (.var 0), (.tup [(Qs 2), (.var 0), (.tup [(Qs 1)])])])]), (.var 1)]), (.var 2)])]
noncomputable def f27 : FD := ⟨3, 3, b27⟩
noncomputable def b28 : List S := [.assign (.var 1) (.con .none), .tryv 1 (.call 26 [(.var 0)]), .ret (.var 1)]
noncomputable def f28 : FD := ⟨1, 2, b28⟩
noncomputable def b29 : List S := [.assign (.var 0) (.tup [(Qs 6), (.glob 5), (.glob 5)]), .assign (.var 1) (.call 27 [(.glob 3), (.var 0), (.var 0)]), .assign (.var 2) (.call 27 [(.glob 1), (.glob 9), (.glob 9)]), .assign (.var 3) (.lst [(.tup [(Qs 19), (Qs 25), (.var 1)]), (.tup [(Qs 19), (Qs 26), (.var 2)])]), .assign (.var 4) (.lst [(.tup [(.tup []), (.call 27 [(.glob 1), (.glob 9), (.var 1)])]), (.tup [(.tup []), (.call 27 [(.glob 1), (.glob 10), (.var 2)])])]), .ret (.tup [(.var 3), (.var 4)])]
noncomputable def f29 : FD := ⟨0, 5, b29⟩
noncomputable def b30 : List S := [.assign (.var 1) (.tup [(Qs 3), (Qs 24), (.glob 2)]), .assign (.var 2) (.call 27 [(.glob 2), (.glob 8), (.var 1)]), .ret (.idx (.lst [(.tup [(.glob 5), (.lst [(.glob 5)])]), (.tup [(.glob 6), (.lst [(.glob 6)])]), (.tup [(.glob 7), (.lst [(.glob 7)])]), (.tup [(.var 2), (.lst [(.glob 8), (.var 1)])]), (.tup [(.glob 9), (.lst [])])]) (.bin .mod (.var 0) (Qi 5)))]
noncomputable def f30 : FD := ⟨1, 3, b30⟩
noncomputable def b31 : List S := [.fors (.tup [(.var 2), (.var 3)]) (.var 1) [.ite (.cmp .eq (.var 2) (.var 0)) [.ret (.var 3)] []], .ret (.var 0)]
noncomputable def f31 : FD := ⟨2, 4, b31⟩
noncomputable def b32 : List S := [.assign (.var 8) (.lst [(.glob 5), (.glob 6), (.glob 7)]), .assign (.tup [(.var 9), (.var 10), (.var 11)]) (.tup [(.idx (.var 8) (.bin .mod (.var 2) (Qi 3))), (.idx (.var 8) (.bin .mod (.var 3) (Qi 3))), (.idx (.var 8) (.bin .mod (.bin .add (.bin .add (.var 3) (Qi 1)) (.bin .mod (.var 4) (Qi 2))) (Qi 3)))]), .assign (.tup [(.var 12), (.var 13), (.var 14), (.var 15), (.var 16)]) (.tup [(.call 30 [(.var 0)]), (.call 30 [(.var 1)]), (.call 30 [(.var 5)]), (.call 30 [(.var 6)]), (.call 30 [(.var 7)])]), .assign (.var 17) (.tup [(.call 27 [(.glob 1), (Qx 14 0), (Qx 15 0)]), (.bin .add (Qx 14 1) (Qx 15 1))]), .assign (.var 18) (.tup [(Qs 6), (.var 9), (.call 27 [(.glob 1), (Qx 12 0), (Qx 13 0)])]), .assign (.var 19) (.bin .add (Qx 12 1) (Qx 13 1)), .newl 20 [], .fors (.var 21) (.var 19) [.ite (.and [(.cmp .ne (.var 21) (.var 9)), (.cmp .nmem (.var 21) (.var 20))]) [.app 20 (.var 21)] []], .ite (.cmp .ne (.call 3 [(.var 18)]) (.var 20)) [.ret (.con (.bool false))] [], .assign (.var 22) (.lst []), .fors (.tup [(.var 21), (.var 23)]) (.tup [(.tup [(.var 10), (.var 17)]), (.tup [(.var 11), (.var 16)])]) [.ite (.cmp .mem (.var 21) (.var 20)) [.assign (.var 22) (.bin .add (.var 22) (Qx 23 1))] []], .assign (.var 24) (.var 9), .ite (.cmp .mem (.var 9) (.var 22)) [.assign (.var 25) (.comp 2 (Qx 39 1) (.var 39) (.bin .add (.var 19) (.var 22)) []), .assign (.var 26) (.comp 4 (.bin .add (Qx 9 1) (.var 39)) (.var 39) (.tup [(Qs 9), (Qs 27)]) [(.cmp .nmem (.bin .add (Qx 9 1) (.var 39)) (.var 25))]), .assign (.var 24) (.tup [(Qs 3), (Qx 26 0), (.glob 1)])] [], .assign (.var 27) (.lst [(.tup [(.var 9), (.var 24)]), (.tup [(.var 10), (Qx 17 0)]), (.tup [(.var 11), (Qx 16 0)])]), .assign (.var 28) (.call 7 [(.tup [(.tup [(.var 10), (Qx 17 0)]), (.tup [(.var 11), (Qx 16 0)])]), (.var 18)]), .ite (.cmp .ne (.var 28) (.tup [(Qs 6), (.var 24), (.call 27 [(.glob 1), (.call 31 [(Qx 12 0), (.var 27)]), (.call 31 [(Qx 13 0), (.var 27)])])])) [.ret (.con (.bool false))] [], .assign (.var 29) (.tup [(Qs 6), (.var 11), (.var 18)]), .assign (.var 30) (.tup [(Qs 6), (.var 10), (.var 29)]), .assign (.var 31) (.call 7 [(.tup [(.tup [(.var 10), (Qx 17 0)])]), (.var 29)]), .assign (.var 32) (.call 7 [(.tup [(.tup [(Qx 31 1), (Qx 16 0)])]), (Qx 31 2)]), .ite (.cmp .isNot (.call 5 [(.var 32), (.var 28)]) (.con (.bool true))) [.ret (.con (.bool false))] [], .assign (.tup [(.var 33), (.var 34)]) (.call 29 []), .assign (.var 33) (.bin .add (.var 33) (.lst [(.tup [(Qs 16), (.var 10), (.var 29)]), (.tup [(Qs 17), (.tup [(.tup [(.var 10), (Qx 17 0)])]), (Qi 2)]), (.tup [(Qs 11), (Qx 16 0)]), (.tup [(Qs 7), (Qi 3), (Qi 4)])])), .assign (.var 33) (.bin .add (.var 33) (.lst [(.tup [(Qs 16), (Qx 31 1), (Qx 31 2)]), (.tup [(Qs 17), (.tup [(.tup [(Qx 31 1), (Qx 16 0)])]), (Qi 6)]), (.tup [(Qs 15), (Qi 5), (Qi 7)])])), .assign (.var 35) (.tup [(Qs 7), (.var 30), (Qx 17 0)]), .assign (.var 36) (.tup [(Qs 7), (.var 35), (Qx 16 0)]), .assign (.var 37) (.lst [(.call 27 [(.glob 4), (.tup [(Qs 7), (.var 30), (.var 10)]), (.var 29)]), (.call 27 [(.glob 4), (.var 35), (.var 31)]), (.call 27 [(.glob 1), (Qx 16 0), (Qx 16 0)])]), .assign (.var 37) (.bin .add (.var 37) (.lst [(.call 27 [(.glob 3), (.var 36), (.tup [(Qs 7), (.var 31), (Qx 16 0)])]), (.call 27 [(.glob 3), (.tup [(Qs 7), (.var 31), (Qx 31 1)]), (Qx 31 2)])])), .assign (.var 37) (.bin .add (.var 37) (.lst [(.call 27 [(.glob 3), (.tup [(Qs 7), (.var 31), (Qx 16 0)]), (.var 32)]), (.call 27 [(.glob 3), (.var 36), (.var 32)])])), .ite (.cmp .ne (.call 28 [(.toTup (.var 33))]) (.bin .add (.var 34) (.comp 2 (.tup [(.tup []), (.var 39)]) (.var 39) (.var 37) []))) [.ret (.con (.bool false))] [], .ret (.con (.bool true))]
noncomputable def f32 : FD := ⟨8, 38, b32⟩
noncomputable def b33 : List S := [.assign (.var 3) (.lst [(.glob 5), (.glob 6), (.glob 8)]), .assign (.tup [(.var 4), (.var 5)]) (.tup [(.idx (.var 3) (.bin .mod (.var 0) (Qi 3))), (.idx (.var 3) (.bin .mod (.var 1) (Qi 3)))]), .assign (.var 6) (.idx (.lst [(.glob 5), (.glob 6), (.glob 8), (.glob 9), (.glob 10)]) (.bin .mod (.var 2) (Qi 5))), .assign (.var 7) (.var 6), .ite (.cmp .eq (.var 6) (.var 4)) [.assign (.var 7) (Qs 28)] [], .ite (.cmp .eq (.var 6) (.var 5)) [.assign (.var 7) (Qs 29)] [], .assign (.var 8) (.lst []), .ite (.and [(.cmp .eq (.var 7) (.var 6)), (.cmp .eq (Qx 6 0) (Qs 3))]) [.assign (.var 8) (.lst [(.var 6)])] [], .ret (.tup [(.tup [(Qs 6), (.var 4), (.tup [(Qs 6), (.var 5), (.var 6)])]), (.tup [(Qx 4 2), (Qx 5 2), (.var 7)]), (.tup [(Qs 2), (Qx 4 2), (.tup [(Qs 2), (Qx 5 2), (Qx 6 2)])]), (.var 8)])]
noncomputable def f33 : FD := ⟨3, 9, b33⟩
noncomputable def b34 : List S := [.assign (.tup [(.var 11), (.var 12)]) (.tup [(.call 33 [(.var 0), (.var 1), (.var 2)]), (.call 33 [(.var 4), (.var 5), (.var 6)])]), .assign (.var 13) (.tup [(Qs 3), (.idx (.lst [(Qs 30), (Qs 31)]) (.bin .mod (.var 3) (Qi 2))), (.tup [(Qs 2), (Qx 11 2), (.glob 1)])]), .assign (.var 14) (.tup [(Qs 3), (.idx (.lst [(Qs 30), (Qs 31)]) (.bin .mod (.var 7) (Qi 2))), (.tup [(Qs 2), (Qx 12 2), (.glob 1)])]), .assign (.tup [(.var 15), (.var 16)]) (.tup [(.tup [(Qs 7), (.var 13), (Qx 11 0)]), (.tup [(Qs 7), (.var 14), (Qx 12 0)])]), .assign (.var 17) (.cmp .eq (Qx 11 1) (Qx 12 1)), .assign (.var 18) (.and [(.var 17), (.cmp .eq (.var 13) (.var 14))]), .assign (.tup [(.var 19), (.var 20)]) (.tup [(.call 5 [(Qx 11 0), (Qx 12 0)]), (.call 5 [(.var 15), (.var 16)])]), .ite (.not (.and [(.isBool (.var 19)), (.isBool (.var 20))])) [.ret (.con (.bool false))] [], .ite (.cmp .ne (.tup [(.var 19), (.var 20), (.call 3 [(.var 15)])]) (.tup [(.var 17), (.var 18), (.bin .add (.lst [(.var 13)]) (Qx 11 3))])) [.ret (.con (.bool false))] [], .assign (.tup [(.var 21), (.var 22), (.var 23)]) (.tup [(.call 27 [(.glob 1), (.var 15), (.var 16)]), (.call 27 [(.glob 1), (.var 16), (.var 15)]), (.call 27 [(.glob 1), (.var 15), (.var 15)])]), .assign (.var 24) (.tup [(Qs 4), (Qs 5), (.glob 4)]), .assign (.var 25) (.tup [(Qs 7), (.tup [(Qs 7), (.tup [(Qs 3), (Qs 5), (.glob 4)]), (.glob 5)]), (.glob 6)]), .assign (.tup [(.var 26), (.var 27)]) (.call 29 []), .assign (.var 26) (.bin .add (.var 26) (.lst [(.tup [(Qs 12), (.var 21)]), (.tup [(Qs 12), (.var 15)]), (.tup [(Qs 12), (.var 16)]), (.tup [(Qs 14), (Qi 2), (Qi 3)]), (.tup [(Qs 11), (.var 24)]), (.tup [(Qs 7), (Qi 6), (Qi 2)]), (.tup [(Qs 11), (.var 15)])])), .assign (.var 26) (.bin .add (.var 26) (.lst [(.tup [(Qs 7), (Qi 7), (Qi 8)]), (.tup [(Qs 14), (Qi 9), (Qi 8)]), (.tup [(Qs 14), (Qi 10), (Qi 4)]), (.tup [(Qs 13), (Qi 11), (Qi 5)]), (.tup [(Qs 12), (.glob 5)]), (.tup [(Qs 12), (.glob 6)])])), .assign (.var 26) (.bin .add (.var 26) (.lst [(.tup [(Qs 13), (Qi 13), (Qi 14)]), (.tup [(Qs 12), (.var 25)]), (.tup [(Qs 17), (.tup [(.tup [(.glob 5), (.var 15)]), (.tup [(.glob 6), (.var 16)])]), (Qi 15)])])), .assign (.var 27) (.bin .add (.var 27) (.lst [(.tup [(.tup [(.var 21)]), (.var 21)]), (.tup [(.tup [(.var 15)]), (.var 15)]), (.tup [(.tup [(.var 16)]), (.var 16)]), (.tup [(.tup [(.var 21), (.var 15)]), (.var 16)]), (.tup [(.tup []), (.call 27 [(.glob 4), (.var 24), (.var 24)])])])), .assign (.var 27) (.bin .add (.var 27) (.lst [(.tup [(.tup [(.var 21)]), (.call 27 [(.glob 3), (.tup [(Qs 7), (.var 24), (.var 15)]), (.tup [(Qs 7), (.var 24), (.var 16)])])]), (.tup [(.tup []), (.var 23)])])), .assign (.var 27) (.bin .add (.var 27) (.lst [(.tup [(.tup [(.var 21)]), (.call 27 [(.glob 1), (.var 23), (.var 22)])]), (.tup [(.tup [(.var 21)]), (.var 22)]), (.tup [(.tup [(.var 21), (.var 16)]), (.var 15)]), (.tup [(.tup [(.var 21)]), (.var 21)]), (.tup [(.tup [(.glob 5)]), (.glob 5)])])), .assign (.var 27) (.bin .add (.var 27) (.lst [(.tup [(.tup [(.glob 6)]), (.glob 6)]), (.tup [(.tup [(.glob 5), (.glob 6)]), (.call 27 [(.glob 1), (.glob 5), (.glob 6)])]), (.tup [(.tup [(.var 25)]), (.var 25)])])), .assign (.tup [(.var 28), (.var 29), (.var 30), (.var 31), (.var 32)]) (.tup [(.con .none), (.con .none), (.con .none), (.con .none), (.tup [(.var 15), (.var 16)])]), .ite (.var 18) [.assign (.tup [(.var 28), (.var 29), (.var 32)]) (.tup [(.tup [(.tup [(.var 21), (.var 16)]), (.var 16)]), (.tup [(.tup [(.var 21)]), (.var 21)]), (.tup [(.var 15)])])] [], .assign (.var 27) (.bin .add (.var 27) (.lst [(.tup [(.var 32), (.var 21)])])), .assign (.var 33) (.idx (.lst [(.glob 5), (.glob 6), (.glob 8)]) (.bin .mod (.var 8) (Qi 3))), .ite (.cmp .nmem (.var 33) (.bin .add (.bin .add (.lst [(.var 13), (.var 14)]) (Qx 11 3)) (Qx 12 3))) [.assign (.var 30) (.tup [(.tup [(.var 21)]), (.call 27 [(.tup [(Qs 2), (Qx 33 2), (.glob 1)]), (.tup [(Qs 6), (.var 33), (.var 15)]), (.tup [(Qs 6), (.var 33), (.var 16)])])])] [], .assign (.var 34) (.idx (.lst [(.neg (Qi 1)), (Qi 17), (Qi 18), (.var 9)]) (.bin .mod (.var 9) (Qi 4))), .ite (.btw (Qi 0) (.var 34) (Qi 18)) [.assign (.var 31) (.idx (.var 27) (.var 34))] [], .assign (.var 35) (.lst [(.tup [(.tup [(Qs 14), (Qi 2), (Qi 4)]), (.var 28)]), (.tup [(.tup [(Qs 15), (Qi 2), (Qi 2)]), (.var 29)]), (.tup [(.tup [(Qs 6), (.var 33), (Qi 2)]), (.var 30)]), (.tup [(.tup [(Qs 17), (.tup []), (.var 34)]), (.var 31)])]), .assign (.var 35) (.bin .add (.var 35) (.lst [(.tup [(.tup [(Qs 15), (Qi 2), (Qi 10)]), (.tup [(.tup [(.var 21)]), (.var 23)])]), (.tup [(.tup [(Qs 14), (Qi 16), (Qi 13)]), (.con .none)]), (.tup [(.tup [(Qs 14), (Qi 3), (Qi 4)]), (.con .none)]), (.tup [(.tup [(Qs 15), (Qi 2), (Qi 14)]), (.con .none)])])), .assign (.var 35) (.bin .add (.var 35) (.lst [(.tup [(.tup [(Qs 7), (Qi 2), (Qi 2)]), (.con .none)]), (.tup [(.tup [(Qs 7), (Qi 7), (Qi 6)]), (.con .none)]), (.tup [(.tup [(Qs 32), (Qi 2)]), (.con .none)])])), .assign (.tup [(.var 36), (.var 37)]) (.idx (.var 35) (.bin .mod (.var 10) (Qi 11))), .ite (.cmp .ne (.call 28 [(.toTup (.var 26))]) (.var 27)) [.ret (.con (.bool false))] [], .assign (.var 38) (.con .none), .ite (.cmp .isNot (.var 37) (.con .none)) [.assign (.var 38) (.bin .add (.var 27) (.lst [(.var 37)]))] [], .ite (.cmp .ne (.call 28 [(.toTup (.bin .add (.var 26) (.lst [(.var 36)])))]) (.var 38)) [.ret (.con (.bool false))] [], .ret (.con (.bool true))]
noncomputable def f34 : FD := ⟨11, 39, b34⟩
noncomputable def b35 : List S := [.assign (.var 5) (.idx (.lst [(.var 3), (.var 4), (.tup [(Qs 10), (Qs 33)]), (.glob 1), (.tup [(Qs 2), (.var 3), (.var 4)])]) (.bin .mod (.var 1) (Qi 5))), .assign (.var 6) (.tup [(Qs 3), (.var 0), (.var 5)]), .assign (.var 7) (.lst [(.tup [(.tup [(Qs 6), (.var 6), (.var 6)]), (.tup [(Qs 2), (.var 5), (.var 5)]), (Qs 34)]), (.tup [(.tup [(Qs 6), (.var 6), (.glob 9)]), (.tup [(Qs 2), (.var 5), (.glob 1)]), (Qs 34)]), (.tup [(.var 6), (.var 5), (.var 0)])]), .assign (.tup [(.var 8), (.var 9), (.var 10)]) (.idx (.var 7) (.var 2)), .ret (.tup [(.call 27 [(.var 9), (.var 8), (.var 8)]), (.tup [(.var 2), (.var 5), (.var 10)]), (.var 5)])]
noncomputable def f35 : FD := ⟨5, 11, b35⟩
noncomputable def b36 : List S := [.assign (.var 4) (.tup [(Qx 0 0), (Qx 1 0)]), .ite (.cmp .eq (Qx 0 1) (Qx 1 1)) [.assign (.var 4) (.tup [(Qx 0 0)])] [], .assign (.var 5) (.call 27 [(.glob 1), (Qx 0 0), (Qx 1 0)]), .assign (.var 6) (.tup []), .ite (.var 2) [.assign (.var 6) (.var 4)] [], .ret (.idx (.lst [(.tup [(.var 6), (.var 5)]), (.tup [(.var 4), (Qx 1 0)]), (.tup [(.tup []), (.call 27 [(.glob 1), (.var 5), (.var 5)])])]) (.var 3))]
noncomputable def f36 : FD := ⟨4, 7, b36⟩
noncomputable def b37 : List S := [.assign (.tup [(.var 9), (.var 10)]) (.tup [(.tup [(Qs 10), (Qs 35)]), (.tup [(Qs 10), (Qs 36)])]), .assign (.var 11) (.lst [(.glob 1), (.var 9), (.var 10), (.tup [(Qs 10), (Qs 33)])]), .assign (.tup [(.var 12), (.var 13)]) (.tup [(.idx (.var 11) (.bin .mod (.var 6) (Qi 4))), (.idx (.var 11) (.bin .mod (.var 7) (Qi 4)))]), .assign (.tup [(.var 14), (.var 15)]) (.tup [(.idx (.lst [(Qs 22), (Qs 23)]) (.bin .mod (.var 0) (Qi 2))), (.idx (.lst [(Qs 22), (Qs 23)]) (.bin .mod (.var 1) (Qi 2)))]), .assign (.tup [(.var 16), (.var 17)]) (.tup [(.call 35 [(.var 14), (.var 2), (.bin .mod (.var 4) (Qi 3)), (.var 9), (.var 10)]), (.call 35 [(.var 15), (.var 3), (.bin .mod (.var 5) (Qi 3)), (.var 9), (.var 10)])]), .assign (.tup [(.var 18), (.var 19)]) (.tup [(.call 35 [(.var 14), (.var 2), (.bin .mod (.var 4) (Qi 3)), (.var 10), (.var 9)]), (.call 35 [(.var 15), (.var 3), (.bin .mod (.var 5) (Qi 3)), (.var 10), (.var 9)])]), .assign (.tup [(.var 20), (.var 21)]) (.tup [(.call 35 [(.var 14), (.var 2), (.bin .mod (.var 4) (Qi 3)), (.var 12), (.var 13)]), (.call 35 [(.var 15), (.var 3), (.bin .mod (.var 5) (Qi 3)), (.var 12), (.var 13)])]), .assign (.var 22) (.cmp .ne (Qx 16 1) (Qx 17 1)), .assign (.var 23) (.call 27 [(.glob 1), (Qx 16 0), (Qx 17 0)]), .assign (.var 24) (.tup [(.tup [(Qs 35), (.var 10)]), (.tup [(Qs 36), (.var 9)])]), .assign (.tup [(.var 25), (.var 26)]) (.call 29 []), .assign (.var 25) (.bin .add (.var 25) (.lst [(.tup [(Qs 12), (Qx 16 0)]), (.tup [(Qs 12), (Qx 17 0)]), (.tup [(Qs 13), (Qi 2), (Qi 3)]), (.tup [(Qs 14), (Qi 4), (Qi 2)]), (.tup [(Qs 11), (.var 23)])])), .assign (.var 25) (.bin .add (.var 25) (.lst [(.tup [(Qs 18), (.var 24), (Qi 5)]), (.tup [(Qs 18), (.var 24), (Qi 7)]), (.tup [(Qs 18), (.tup [(.tup [(Qs 35), (.var 12)]), (.tup [(Qs 36), (.var 13)])]), (.bin .add (Qi 4) (.bin .mod (.var 8) (Qi 3)))])])), .assign (.var 27) (.call 36 [(.var 16), (.var 17), (.var 22), (Qi 1)]), .assign (.var 26) (.bin .add (.var 26) (.lst [(.tup [(.tup [(Qx 16 0)]), (Qx 16 0)]), (.tup [(.tup [(Qx 17 0)]), (Qx 17 0)]), (.call 36 [(.var 16), (.var 17), (.var 22), (Qi 0)]), (.var 27)])), .assign (.var 26) (.bin .add (.var 26) (.lst [(.call 36 [(.var 16), (.var 17), (.var 22), (Qi 2)]), (.call 36 [(.var 18), (.var 19), (.var 22), (Qi 1)]), (.var 27), (.call 36 [(.var 20), (.var 21), (.var 22), (.bin .mod (.var 8) (Qi 3))])])), .assign (.var 28) (.var 26), .ite (.and [(.cmp .eq (.var 14) (.var 15)), (.cmp .ne (Qx 16 2) (Qx 17 2)), (.cmp .eq (Qx 20 2) (Qx 21 2))]) [.assign (.var 28) (.con .none)] [], .ite (.cmp .ne (.call 28 [(.toTup (.var 25))]) (.var 28)) [.ret (.con (.bool false))] [], .ret (.con (.bool true))]
noncomputable def f37 : FD := ⟨9, 29, b37⟩
noncomputable def b38 : List S := [.assign (.var 4) (.tup [(Qs 2), (.glob 2), (.tup [(Qs 2), (.glob 2), (.glob 1)])]), .assign (.var 5) (.tup [(Qs 2), (.glob 2), (.glob 3)]), .assign (.tup [(.var 6), (.var 7)]) (.tup [(.tup [(Qs 2), (.tup [(Qs 10), (Qs 35)]), (.glob 1)]), (.tup [(Qs 2), (.glob 1), (.tup [(Qs 10), (Qs 35)])])]), .assign (.var 8) (.lst [(.tup [(.glob 9), (.glob 1), (.con (.bool true)), (.con (.bool true)), (.con (.bool true))]), (.tup [(.tup [(Qs 4), (Qs 5), (.var 4)]), (.var 4), (.con (.bool true)), (.con (.bool true)), (.con (.bool true))]), (.tup [(.glob 5), (.glob 1), (.con (.bool true)), (.con (.bool true)), (.con (.bool false))])]), .assign (.var 8) (.bin .add (.var 8) (.lst [(.tup [(.tup [(Qs 6), (.tup [(Qs 3), (Qs 37), (.var 6)]), (.glob 9)]), (.tup [(Qs 2), (.var 6), (.glob 1)]), (.con (.bool true)), (.con (.bool true)), (.con (.bool false))])])), .assign (.var 8) (.bin .add (.var 8) (.lst [(.tup [(.tup [(Qs 6), (.tup [(Qs 3), (Qs 37), (.var 7)]), (.glob 9)]), (.tup [(Qs 2), (.var 7), (.glob 1)]), (.con (.bool true)), (.con (.bool true)), (.con (.bool false))])])), .assign (.var 8) (.bin .add (.var 8) (.lst [(.tup [(.tup [(Qs 4), (Qs 38), (.glob 1)]), (.glob 1), (.con (.bool true)), (.con (.bool false)), (.con (.bool true))]), (.tup [(.tup [(Qs 4), (Qs 25), (.glob 2)]), (.glob 2), (.con (.bool true)), (.con (.bool false)), (.con (.bool true))])])), .assign (.var 8) (.bin .add (.var 8) (.lst [(.tup [(.tup [(Qs 7), (.glob 5), (.glob 6)]), (.glob 1), (.con (.bool false)), (.con (.bool true)), (.con (.bool false))])])), .assign (.var 8) (.bin .add (.var 8) (.lst [(.tup [(.tup [(Qs 7), (.tup [(Qs 4), (Qs 5), (.glob 4)]), (.glob 8)]), (.glob 3), (.con (.bool false)), (.con (.bool true)), (.con (.bool false))])])), .assign (.var 8) (.bin .add (.var 8) (.lst [(.tup [(.tup [(Qs 4), (Qs 5), (.glob 3)]), (.glob 3), (.con (.bool false)), (.con (.bool true)), (.con (.bool true))]), (.tup [(.tup [(Qs 4), (Qs 5), (.var 5)]), (.var 5), (.con (.bool false)), (.con (.bool true)), (.con (.bool true))])])), .assign (.var 8) (.bin .add (.var 8) (.lst [(.tup [(.tup [(Qs 4), (Qs 5), (.glob 1)]), (.glob 1), (.con (.bool false)), (.con (.bool true)), (.con (.bool true))])])), .assign (.tup [(.var 9), (.var 10), (.var 11), (.var 12), (.var 13)]) (.idx (.var 8) (.bin .mod (.var 0) (Qi 12))), .assign (.var 14) (.tup [(Qs 7), (.tup [(Qs 6), (.tup [(Qs 3), (Qs 37), (.var 10)]), (.glob 9)]), (.var 9)]), .assign (.var 15) (.tup [(Qs 7), (.tup [(Qs 6), (.glob 6), (.var 9)]), (.glob 9)]), .assign (.tup [(.var 16), (.var 17)]) (.idx (.lst [(.tup [(.var 9), (.var 10)]), (.tup [(.var 14), (.glob 1)]), (.tup [(.var 15), (.var 10)])]) (.bin .mod (.var 1) (Qi 3))), .assign (.var 18) (.con .none), .tryv 18 (.call 1 [(.var 16)]), .assign (.var 19) (.con .none), .ite (.var 11) [.assign (.var 19) (.var 17)] [], .ite (.cmp .ne (.var 18) (.var 19)) [.ret (.con (.bool false))] [], .assign (.tup [(.var 20), (.var 21)]) (.call 29 []), .assign (.var 22) (.idx (.lst [(Qs 39), (Qs 25), (Qs 5)]) (.bin .mod (.var 3) (Qi 3))), .assign (.var 23) (.and [(.var 13), (.cmp .eq (.var 22) (Qs 39))]), .assign (.var 24) (.cmp .eq (.var 17) (.glob 1)), .assign (.var 25) (.lst [(.tup [(.tup [(Qs 11), (.var 16)]), (.tup [(.tup []), (.call 27 [(.var 17), (.var 16), (.var 16)])]), (.con (.bool true))]), (.tup [(.tup [(Qs 12), (.var 16)]), (.tup [(.tup [(.var 16)]), (.var 16)]), (.var 24)])]), .assign (.var 25) (.bin .add (.var 25) (.lst [(.tup [(.tup [(Qs 16), (.glob 8), (.var 16)]), (.tup [(.tup []), (.call 27 [(.var 17), (.tup [(Qs 7), (.tup [(Qs 6), (.glob 8), (.var 16)]), (.glob 8)]), (.var 16)])]), (.con (.bool true))])])), .assign (.var 25) (.bin .add (.var 25) (.lst [(.tup [(.tup [(Qs 17), (.tup [(.tup [(.tup [(Qs 3), (Qs 37), (.var 17)]), (.var 16)])]), (Qi 1)]), (Qx 21 1), (.con (.bool true))])])), .assign (.var 25) (.bin .add (.var 25) (.lst [(.tup [(.tup [(Qs 17), (.tup [(.tup [(.tup [(Qs 3), (Qs 37), (.tup [(Qs 2), (.var 17), (.var 17)])]), (.var 16)])]), (Qi 1)]), (Qx 21 1), (.con (.bool false))])])), .assign (.var 25) (.bin .add (.var 25) (.lst [(.tup [(.tup [(Qs 19), (.var 22), (.var 16)]), (.tup [(.tup []), (.call 27 [(.var 17), (.tup [(Qs 4), (.var 22), (.var 17)]), (.var 16)])]), (.var 23)])])), .assign (.tup [(.var 26), (.var 27), (.var 28)]) (.idx (.var 25) (.bin .mod (.var 2) (Qi 6))), .assign (.var 19) (.con .none), .ite (.and [(.var 11), (.var 12), (.var 28)]) [.assign (.var 19) (.bin .add (.var 21) (.lst [(.var 27)]))] [], .ite (.cmp .ne (.call 28 [(.toTup (.bin .add (.var 20) (.lst [(.var 26)])))]) (.var 19)) [.ret (.con (.bool false))] [], .ret (.con (.bool true))]
noncomputable def f38 : FD := ⟨4, 29, b38⟩
noncomputable def b39 : List S := [.ite (.cmp .lt (.len (.var 0)) (Qi 12)) [.ret (.con (.bool true))] [], .assign (.var 1) (.bin .mod (Qx 0 0) (Qi 4)), .assign (.tup [(.var 2), (.var 3), (.var 4), (.var 5), (.var 6), (.var 7)]) (.tup [(Qx 0 1), (Qx 0 2), (Qx 0 3), (Qx 0 4), (Qx 0 5), (Qx 0 6)]), .assign (.tup [(.var 8), (.var 9), (.var 10), (.var 11), (.var 12)]) (.tup [(Qx 0 7), (Qx 0 8), (Qx 0 9), (Qx 0 10), (Qx 0 11)]), .ite (.and [(.cmp .eq (.var 1) (Qi 0)), (.not (.call 32 [(.var 2), (.var 3), (.var 4), (.var 5), (.var 6), (.var 7), (.var 8), (.var 9)]))]) [.ret (.con (.bool false))] [], .ite (.and [(.cmp .eq (.var 1) (Qi 1)), (.not (.call 34 [(.var 2), (.var 3), (.var 4), (.var 5), (.var 6), (.var 7), (.var 8), (.var 9), (.var 10), (.var 11), (.var 12)]))]) [.ret (.con (.bool false))] [], .ite (.and [(.cmp .eq (.var 1) (Qi 2)), (.not (.call 37 [(.var 2), (.var 3), (.var 4), (.var 5), (.var 6), (.var 7), (.var 8), (.var 9), (.var 10)]))]) [.ret (.con (.bool false))] [], .ite (.and [(.cmp .eq (.var 1) (Qi 3)), (.not (.call 38 [(.var 2), (.var 3), (.var 4), (.var 5)]))]) [.ret (.con (.bool false))] [], .ret (.con (.bool true))]
noncomputable def f39 : FD := ⟨1, 13, b39⟩
noncomputable def FT : List FD := [f0, f1, f2, f3, f4, f5, f6, f7, f8, f9, f10, f11, f12, f13, f14, f15, f16, f17, f18, f19, f20, f21, f22, f23, f24, f25, f26, f27, f28, f29, f30, f31, f32, f33, f34, f35, f36, f37, f38, f39]
noncomputable def FN : List Str := (["_fn", "type_of", "_free_into", "free", "_norm", "alike", "_put", "put_in", "_eq", "_is_equation", "_sides", "_is_among", "_join", "_without", "_vars_into", "_type_put", "_types_put", "_type_is_open", "_is_open", "_check_constants", "_checked", "_theorem", "_one_term", "_two_theorems", "_under", "_with_types", "prove", "_law_eq", "_law_try", "_law_head", "_law_leaf", "_law_swap", "_law_putting", "_law_lam", "_law_logic", "_law_one", "_law_made", "_law_types", "_law_terms", "law"] : List String).map Str.ofString
noncomputable def GN : List Str := (["_B", "_law_bool", "_law_ind", "_law_bb", "_law_bbb", "_law_x", "_law_y", "_law_xp", "_law_z", "_law_k", "_law_l"] : List String).map Str.ofString
noncomputable def G : List PyData := [(.tuple [(.str (st 1))]), (.tuple [(.str (st 1))]), (.tuple [(.str (st 21))]), (.tuple [(.str (st 2)), (.tuple [(.str (st 1))]), (.tuple [(.str (st 1))])]), (.tuple [(.str (st 2)), (.tuple [(.str (st 1))]), (.tuple [(.str (st 2)), (.tuple [(.str (st 1))]), (.tuple [(.str (st 1))])])]), (.tuple [(.str (st 3)), (.str (st 22)), (.tuple [(.str (st 1))])]), (.tuple [(.str (st 3)), (.str (st 23)), (.tuple [(.str (st 1))])]), (.tuple [(.str (st 3)), (.str (st 24)), (.tuple [(.str (st 1))])]), (.tuple [(.str (st 3)), (.str (st 22)), (.tuple [(.str (st 21))])]), (.tuple [(.str (st 4)), (.str (st 25)), (.tuple [(.str (st 1))])]), (.tuple [(.str (st 4)), (.str (st 26)), (.tuple [(.str (st 1))])])]
end Holk
namespace Holk
open PySem
inductive Bs where | x | y | f | g | n | p | z | eq
noncomputable def Bs.i : Bs → Nat | .x => 22 | .y => 23 | .f => 30 | .g => 31 | .n => 37 | .p => 42 | .z => 41 | .eq => 5
noncomputable def Bs.c : Bs → Nat | .x => 0 | .y => 1 | .f => 2 | .g => 3 | .n => 4 | .p => 5 | .z => 6 | .eq => 7
noncomputable def Bs.chOf (n : Nat) : Nat := if n = 120 then 0 else if n = 121 then 1 else if n = 102 then 2 else if n = 103 then 3 else if n = 110 then 4 else if n = 112 then 5 else if n = 122 then 6 else 7
noncomputable def Bs.ch : Bs → Nat | .x => 120 | .y => 121 | .f => 102 | .g => 103 | .n => 110 | .p => 112 | .z => 122 | .eq => 61
noncomputable def Bs.of : Nat → Bs | 0 => .x | 1 => .y | 2 => .f | 3 => .g | 4 => .n | 5 => .p | 6 => .z | _ => .eq
theorem Bs.of_c (a : Bs) : Bs.of a.c = a := by cases a <;> rfl
inductive Cn where | eq | K | L | M | N
noncomputable def Cn.i : Cn → Nat | .eq => 5 | .K => 25 | .L => 26 | .M => 38 | .N => 39
inductive Tn where | a | b | c
noncomputable def Tn.i : Tn → Nat | .a => 35 | .b => 36 | .c => 33
noncomputable def nm (b : Bs) : Nat → Str
 | 0 => st b.i
 | k + 1 => nm b k ++ st 9
theorem Z144 : nm b 0 = (st b.i) := rfl
theorem Z145 : nm b (k + 1) = (nm b k ++ st 9) := rfl
theorem st_one (b : Bs) : (st b.i).cps = #[b.ch] := by cases b <;> decide
theorem st_prime : (st 9).cps = #[39] := by decide
theorem nm_cps (b : Bs) : ∀ k, (nm b k).cps = #[b.ch] ++ Array.replicate k 39
 | 0 => by ((first | rewrite [Z144] | rewrite [Z145]); rw [st_one]); rfl
 | k + 1 => by
  show (nm b k).cps ++ (st 9).cps = _
  rw [nm_cps b k, st_prime, Array.append_assoc]
  congr 1
  rw [Array.replicate_succ]
  rfl
theorem nm_inj {a b : Bs} {k l : Nat} (h : nm a k = nm b l) : a = b ∧ k = l := by
 have h' := congrArg Str.cps h
 rw [nm_cps, nm_cps] at h'
 have hk : k = l := by have := congrArg Array.size h'; simpa using this
 subst hk
 have h0 : a.ch = b.ch := by
  have h1 := congrArg Array.toList h'
  simp only [Array.toList_append, Array.toList_replicate, List.cons_append, List.nil_append] at h1
  exact (List.cons.inj h1).1
 refine ⟨?_, rfl⟩
 have hc : ∀ x : Bs, Bs.chOf x.ch = x.c := fun x => by cases x <;> rfl
 have := congrArg Bs.chOf h0
 rw [hc, hc] at this
 rw [← Bs.of_c a, ← Bs.of_c b, this]
noncomputable def Bs.same (a b : Bs) : Bool := a.c == b.c
theorem Bs.same_iff {a b : Bs} : a.same b = true ↔ a = b := ⟨fun h => by rw [← Bs.of_c a, ← Bs.of_c b, beq_iff_eq.mp h], fun h => by rw [h]; exact beq_self_eq_true b.c⟩
noncomputable def Cn.same (a b : Cn) : Bool := a.i == b.i
theorem Cn.same_iff {a b : Cn} : a.same b = true ↔ a = b := by cases a <;> cases b <;> simp [Cn.same, Cn.i]
noncomputable def Tn.same (a b : Tn) : Bool := a.i == b.i
theorem Tn.same_iff {a b : Tn} : a.same b = true ↔ a = b := by cases a <;> cases b <;> simp [Tn.same, Tn.i]
theorem nm_eq (a b : Bs) (k l : Nat) : (nm a k == nm b l) = (a.same b && k == l) := by
 rw [Bool.eq_iff_iff, beq_iff_eq, Bool.and_eq_true, Bs.same_iff, beq_iff_eq]
 exact ⟨nm_inj, fun h => by rw [h.1, h.2]⟩
theorem cn_eq (a b : Cn) : (st a.i == st b.i) = a.same b := by cases a <;> cases b <;> decide
theorem tn_eq (a b : Tn) : (st a.i == st b.i) = a.same b := by cases a <;> cases b <;> decide
noncomputable def stSame : Bool := (List.range 47).all fun i => (List.range 47).all fun j => (st i == st j) == (i == j)
theorem st_all : stSame = true := by decide +kernel
theorem st_eq {i j : Nat} (hi : i < 47) (hj : j < 47) : (st i == st j) = (i == j) := by
 have := st_all
 simp only [stSame, List.all_eq_true, List.mem_range, beq_iff_eq] at this
 exact this i hi j hj
inductive Ty where | bool | ind | any (n : Tn) | fn (a b : Ty)
inductive Tm where | var (x : Bs) (k : Nat) (t : Ty) | con (x : Cn) (t : Ty) | app (f a : Tm) | lam (x : Bs) (k : Nat) (t : Ty) (b : Tm)
structure Vr where
 x : Bs
 k : Nat
 t : Ty
noncomputable def Ty.eq : Ty → Ty → Bool
 | .bool, t => match t with
  | .bool => true
  | _ => false
 | .ind, t => match t with
  | .ind => true
  | _ => false
 | .any a, t => match t with
  | .any b => a.same b
  | _ => false
 | .fn a b, t => match t with
  | .fn c d => a.eq c && b.eq d
  | _ => false
theorem Z1 : Ty.eq (.bool) t = (match t with
  | .bool => true
  | _ => false) := rfl
theorem Z2 : Ty.eq (.ind) t = (match t with
  | .ind => true
  | _ => false) := rfl
theorem Z3 : Ty.eq (.any a) t = (match t with
  | .any b => a.same b
  | _ => false) := rfl
theorem Z4 : Ty.eq (.fn a b) t = (match t with
  | .fn c d => a.eq c && b.eq d
  | _ => false) := rfl
noncomputable def Vr.eq (a b : Vr) : Bool := a.x.same b.x && a.k == b.k && a.t.eq b.t
noncomputable def Tm.eq : Tm → Tm → Bool
 | .var x k t, e => match e with
  | .var y l u => x.same y && k == l && t.eq u
  | _ => false
 | .con x t, e => match e with
  | .con y u => x.same y && t.eq u
  | _ => false
 | .app f a, e => match e with
  | .app g b => f.eq g && a.eq b
  | _ => false
 | .lam x k t a, e => match e with
  | .lam y l u b => x.same y && k == l && t.eq u && a.eq b
  | _ => false
theorem Z5 : Tm.eq (.var x k t) e = (match e with
  | .var y l u => x.same y && k == l && t.eq u
  | _ => false) := rfl
theorem Z6 : Tm.eq (.con x t) e = (match e with
  | .con y u => x.same y && t.eq u
  | _ => false) := rfl
theorem Z7 : Tm.eq (.app f a) e = (match e with
  | .app g b => f.eq g && a.eq b
  | _ => false) := rfl
theorem Z8 : Tm.eq (.lam x k t a) e = (match e with
  | .lam y l u b => x.same y && k == l && t.eq u && a.eq b
  | _ => false) := rfl
noncomputable def lsEq {α : Type} (q : α → α → Bool) : List α → List α → Bool
 | [], l => l.isEmpty
 | a :: r, l => match l with
  | [] => false
  | b :: s => q a b && lsEq q r s
theorem lsEq_iff {α : Type} {q : α → α → Bool} (h : ∀ {a b}, q a b = true → a = b) : ∀ {x y : List α}, lsEq q x y = true → x = y
 | [], [], _ => rfl
 | [], _ :: _, g => Bool.noConfusion g
 | _ :: _, [], g => Bool.noConfusion g
 | a :: r, b :: s, g => by
  have g := Bool.and_eq_true_iff.mp g
  rw [h g.1, lsEq_iff h g.2]
theorem Ty.eq_iff : ∀ {a b : Ty}, a.eq b = true ↔ a = b := by
 intro a
 induction a with
 | bool => intro b; cases b <;> simp [Z1, Z2, Z3, Z4]
 | ind => intro b; cases b <;> simp [Z1, Z2, Z3, Z4]
 | any n => intro b; cases b <;> simp [Z1, Z2, Z3, Z4, Tn.same_iff]
 | fn a b iha ihb => intro c; cases c <;> simp [Z1, Z2, Z3, Z4, iha, ihb]
theorem Vr.eq_iff {a b : Vr} : a.eq b = true ↔ a = b := by
 obtain ⟨x, k, t⟩ := a; obtain ⟨y, l, u⟩ := b
 simp [Vr.eq, Bs.same_iff, Ty.eq_iff, and_assoc]
theorem Tm.eq_iff : ∀ {a b : Tm}, a.eq b = true ↔ a = b := by
 intro a
 induction a with
 | var x k t => intro b; cases b <;> simp [Z5, Z6, Z7, Z8, Bs.same_iff, Ty.eq_iff, and_assoc]
 | con x t => intro b; cases b <;> simp [Z5, Z6, Z7, Z8, Cn.same_iff, Ty.eq_iff]
 | app f a ihf iha => intro b; cases b <;> simp [Z5, Z6, Z7, Z8, ihf, iha]
 | lam x k t a ih => intro b; cases b <;> simp [Z5, Z6, Z7, Z8, Bs.same_iff, Ty.eq_iff, ih, and_assoc]
noncomputable def eTy : Ty → PyData
 | .bool => .tuple [.str (st 1)]
 | .ind => .tuple [.str (st 21)]
 | .any n => .tuple [.str (st 10), .str (st n.i)]
 | .fn a b => .tuple [.str (st 2), eTy a, eTy b]
theorem Z89 : eTy (.bool) = (.tuple [.str (st 1)]) := rfl
theorem Z90 : eTy (.ind) = (.tuple [.str (st 21)]) := rfl
theorem Z91 : eTy (.any n) = (.tuple [.str (st 10), .str (st n.i)]) := rfl
theorem Z92 : eTy (.fn a b) = (.tuple [.str (st 2), eTy a, eTy b]) := rfl
noncomputable def eVr (v : Vr) : PyData := .tuple [.str (st 3), .str (nm v.x v.k), eTy v.t]
noncomputable def eTm : Tm → PyData
 | .var x k t => .tuple [.str (st 3), .str (nm x k), eTy t]
 | .con x t => .tuple [.str (st 4), .str (st x.i), eTy t]
 | .app f a => .tuple [.str (st 7), eTm f, eTm a]
 | .lam x k t b => .tuple [.str (st 6), .tuple [.str (st 3), .str (nm x k), eTy t], eTm b]
theorem Z63 : eTm (.var x k t) = (.tuple [.str (st 3), .str (nm x k), eTy t]) := rfl
theorem Z64 : eTm (.con x t) = (.tuple [.str (st 4), .str (st x.i), eTy t]) := rfl
theorem Z65 : eTm (.app f a) = (.tuple [.str (st 7), eTm f, eTm a]) := rfl
theorem Z66 : eTm (.lam x k t b) = (.tuple [.str (st 6), .tuple [.str (st 3), .str (nm x k), eTy t], eTm b]) := rfl
theorem ev_str (a b : Str) : PyData.eqv (.str a) (.str b) = (a == b) := rfl
theorem ev_tup (a b : List PyData) : PyData.eqv (.tuple a) (.tuple b) = PyData.eqvAll a b := rfl
theorem ev_lst (a b : List PyData) : PyData.eqv (.list a) (.list b) = PyData.eqvAll a b := rfl
theorem ev_st (a : Str) (b : List PyData) : PyData.eqv (.str a) (.tuple b) = false := rfl
theorem ev_ts (a : List PyData) (b : Str) : PyData.eqv (.tuple a) (.str b) = false := rfl
theorem ea_nil : PyData.eqvAll [] [] = true := rfl
theorem ea_cons (x y : PyData) (xs ys : List PyData) : PyData.eqvAll (x :: xs) (y :: ys) = (PyData.eqv x y && PyData.eqvAll xs ys) := rfl
theorem ea_nc (y : PyData) (ys : List PyData) : PyData.eqvAll [] (y :: ys) = false := rfl
theorem ea_cn (y : PyData) (ys : List PyData) : PyData.eqvAll (y :: ys) [] = false := rfl
theorem eTy_tup (t : Ty) : ∃ xs, eTy t = .tuple xs := by cases t <;> exact ⟨_, rfl⟩
theorem ev_sty (a : Str) (t : Ty) : PyData.eqv (.str a) (eTy t) = false := by obtain ⟨xs, h⟩ := eTy_tup t; rw [h, ev_st]
theorem ev_tys (a : Str) (t : Ty) : PyData.eqv (eTy t) (.str a) = false := by obtain ⟨xs, h⟩ := eTy_tup t; rw [h, ev_ts]
theorem eqv_ty : ∀ a b : Ty, PyData.eqv (eTy a) (eTy b) = a.eq b := by
 intro a
 induction a with
 | bool => intro b; cases b <;> simp [Z89, Z90, Z91, Z92, Z1, Z2, Z3, Z4, ev_str, ev_tup, ev_st, ev_ts, ev_sty, ev_tys, ea_nil, ea_cons, ea_nc, ea_cn, st_eq]
 | ind => intro b; cases b <;> simp [Z89, Z90, Z91, Z92, Z1, Z2, Z3, Z4, ev_str, ev_tup, ev_st, ev_ts, ev_sty, ev_tys, ea_nil, ea_cons, ea_nc, ea_cn, st_eq]
 | any n => intro b; cases b <;> simp [Z89, Z90, Z91, Z92, Z1, Z2, Z3, Z4, ev_str, ev_tup, ev_st, ev_ts, ev_sty, ev_tys, ea_nil, ea_cons, ea_nc, ea_cn, st_eq, tn_eq]
 | fn a b iha ihb => intro c; cases c <;> simp [Z89, Z90, Z91, Z92, Z1, Z2, Z3, Z4, ev_str, ev_tup, ev_st, ev_ts, ev_sty, ev_tys, ea_nil, ea_cons, ea_nc, ea_cn, st_eq, iha, ihb]
theorem eqv_vr (a b : Vr) : PyData.eqv (eVr a) (eVr b) = a.eq b := by
 simp [eVr, Vr.eq, ev_str, ev_tup, ea_nil, ea_cons, nm_eq, eqv_ty, Bool.and_assoc]
theorem eqv_tm : ∀ a b : Tm, PyData.eqv (eTm a) (eTm b) = a.eq b := by
 intro a
 induction a with
 | var x k t => intro b; cases b <;> simp [Z63, Z64, Z65, Z66, Z5, Z6, Z7, Z8, ev_str, ev_tup, ev_st, ev_ts, ev_sty, ev_tys, ea_nil, ea_cons, ea_nc, ea_cn, st_eq, nm_eq, eqv_ty, Bool.and_assoc]
 | con x t => intro b; cases b <;> simp [Z63, Z64, Z65, Z66, Z5, Z6, Z7, Z8, ev_str, ev_tup, ev_st, ev_ts, ev_sty, ev_tys, ea_nil, ea_cons, ea_nc, ea_cn, st_eq, cn_eq, eqv_ty]
 | app f a ihf iha => intro b; cases b <;> simp [Z63, Z64, Z65, Z66, Z5, Z6, Z7, Z8, ev_str, ev_tup, ev_st, ev_ts, ev_sty, ev_tys, ea_nil, ea_cons, ea_nc, ea_cn, st_eq, ihf, iha]
 | lam x k t a ih => intro b; cases b <;> simp [Z63, Z64, Z65, Z66, Z5, Z6, Z7, Z8, ev_str, ev_tup, ev_st, ev_ts, ev_sty, ev_tys, ea_nil, ea_cons, ea_nc, ea_cn, st_eq, nm_eq, eqv_ty, ih, Bool.and_assoc]
noncomputable def Ty.dp : Ty → Nat
 | .bool => 0
 | .ind => 0
 | .any _ => 0
 | .fn a b => max a.dp b.dp + 1
theorem Z150 : Ty.dp (.bool) = (0) := rfl
theorem Z151 : Ty.dp (.ind) = (0) := rfl
theorem Z152 : Ty.dp (.any u1) = (0) := rfl
theorem Z153 : Ty.dp (.fn a b) = (max a.dp b.dp + 1) := rfl
noncomputable def Tm.dp : Tm → Nat
 | .var _ _ t => t.dp
 | .con _ t => t.dp
 | .app f a => max f.dp a.dp + 1
 | .lam _ _ t b => max t.dp b.dp + 1
theorem Z114 : Tm.dp (.var u1 u2 t) = (t.dp) := rfl
theorem Z115 : Tm.dp (.con u1 t) = (t.dp) := rfl
theorem Z116 : Tm.dp (.app f a) = (max f.dp a.dp + 1) := rfl
theorem Z117 : Tm.dp (.lam u1 u2 t b) = (max t.dp b.dp + 1) := rfl
theorem depth_ty : ∀ t : Ty, (eTy t).depth ≤ t.dp + 1
 | .bool => by simp [Z89, Z90, Z91, Z92, PyData.depth, PyData.depthAll]
 | .ind => by simp [Z89, Z90, Z91, Z92, PyData.depth, PyData.depthAll]
 | .any n => by simp [Z89, Z90, Z91, Z92, PyData.depth, PyData.depthAll]
 | .fn a b => by
  have := depth_ty a; have := depth_ty b
  simp only [Z89, Z90, Z91, Z92, PyData.depth, PyData.depthAll, Z150, Z151, Z152, Z153]; with_reducible exact Bd.iz ‹_› this
theorem depth_tm : ∀ t : Tm, (eTm t).depth ≤ t.dp + 2
 | .var x k t => by have := depth_ty t; simp only [Z63, Z64, Z65, Z66, PyData.depth, PyData.depthAll, Z114, Z115, Z116, Z117]; (apply Bd.sc; (apply Bd.mx <;> (first | exact Bd.zz | (with_reducible apply Bd.mx <;> (first | exact Bd.zz | (with_reducible apply Bd.mx <;> (first | exact this | exact Bd.zz)))))))
 | .con x t => by have := depth_ty t; simp only [Z63, Z64, Z65, Z66, PyData.depth, PyData.depthAll, Z114, Z115, Z116, Z117]; (apply Bd.sc; (apply Bd.mx <;> (first | exact Bd.zz | (with_reducible apply Bd.mx <;> (first | exact Bd.zz | (with_reducible apply Bd.mx <;> (first | exact this | exact Bd.zz)))))))
 | .app f a => by
  have := depth_tm f; have := depth_tm a
  simp only [Z63, Z64, Z65, Z66, PyData.depth, PyData.depthAll, Z114, Z115, Z116, Z117]; with_reducible exact Bd.iz ‹_› this
 | .lam x k t b => by
  have := depth_ty t; have := depth_tm b
  simp only [Z63, Z64, Z65, Z66, PyData.depth, PyData.depthAll, Z114, Z115, Z116, Z117]; (apply Bd.sc; (apply Bd.mx <;> (first | exact Bd.zz | (with_reducible apply Bd.mx <;> (first | (with_reducible apply Bd.mx <;> (first | exact Bd.zz | exact Bd.xr this | (with_reducible apply Bd.mx <;> (first | exact Bd.zz | (with_reducible apply Bd.mx <;> (first | exact Bd.zz | (with_reducible apply Bd.mx <;> (first | exact Bd.zz | with_reducible exact Bd.xl ‹_›)))))))) | (with_reducible apply Bd.sc; (first | exact Bd.zz | exact Bd.xr this | (with_reducible apply Bd.mx <;> (first | exact Bd.zz | (with_reducible apply Bd.mx <;> (first | exact Bd.zz | (with_reducible apply Bd.mx <;> (first | exact Bd.zz | with_reducible exact Bd.xl ‹_›)))))))))))))
theorem cmp_str (a b : Str) : cmpOp .eq (.str a) (.str b) = some (a == b) := by simp [cmpOp, PyData.depth, ev_str, dlim]
theorem cmp_str_ne (a b : Str) : cmpOp .ne (.str a) (.str b) = some (!(a == b)) := by simp [cmpOp, PyData.depth, ev_str, dlim]
theorem cmp_ty {a b : Ty} (h : a.dp ≤ 900) : cmpOp .eq (eTy a) (eTy b) = some (a.eq b) := by
 have := depth_ty a
 rw [cmp_e, if_pos (by simp only [dlim]; lia), eqv_ty]
theorem cmp_ty_ne {a b : Ty} (h : a.dp ≤ 900) : cmpOp .ne (eTy a) (eTy b) = some (!(a.eq b)) := by
 have := depth_ty a
 rw [cmp_n, if_pos (by simp only [dlim]; lia), eqv_ty]
end Holk
namespace Holk
open PySem
/-! The evaluator, one step at a time: what comes behind stays folded until it is reached. -/
section
variable {G : List PyData} {C : CallT} {fr : Frame} {σ : Store}
noncomputable def k1 (k : V → Store → Res V) (r : Res V) : Res V := r.bind k
noncomputable def k2 (g : Store → Res V) (k : V → V → Store → Res V) (r : Res V) : Res V := r.bind fun a σ => (g σ).bind (k a)
theorem k1_ok (a : V) (σ : Store) (k : V → Store → Res V) : k1 k (.ok a σ) = k a σ := rfl
theorem k1_err (σ : Store) (k : V → Store → Res V) : k1 k (.err σ) = .err σ := rfl
theorem k2_ok (a : V) (σ : Store) (g : Store → Res V) (k : V → V → Store → Res V) : k2 g k (.ok a σ) = k1 (k a) (g σ) := rfl
theorem k2_err (σ : Store) (g : Store → Res V) (k : V → V → Store → Res V) : k2 g k (.err σ) = .err σ := rfl
noncomputable def oq (f : PyData → PyData → Option PyData) (a b : V) (σ : Store) : Res V := (Res.of σ (deref σ a)).bind fun x σ => (Res.of σ (deref σ b)).bind fun y σ => (Res.of σ (f x y)).bind fun r σ => .ok (.d r) σ
noncomputable def ou (f : PyData → Option PyData) (a : V) (σ : Store) : Res V := (Res.of σ (deref σ a)).bind fun x σ => (Res.of σ (f x)).bind fun r σ => .ok (.d r) σ
noncomputable def okD (σ : Store) (o : Option PyData) : Res V := (Res.of σ o).bind fun r σ => .ok (.d r) σ
theorem okD_some (σ : Store) (x : PyData) : okD σ (some x) = .ok (.d x) σ := rfl
theorem oq_dd (f : PyData → PyData → Option PyData) (a b : PyData) (σ : Store) : oq f (.d a) (.d b) σ = okD σ (f a b) := rfl
theorem ou_d (f : PyData → Option PyData) (a : PyData) (σ : Store) : ou f (.d a) σ = okD σ (f a) := rfl
theorem ou_l (f : PyData → Option PyData) {n : Nat} {xs : List PyData} {σ : Store} (h : σ[n]? = some (.lst xs)) : ou f (.loc n) σ = okD σ (f (.list xs)) := by
 unfold ou okD; simp only [deref, h, Res.of_some, Res.bind_ok]
theorem oq_dl (f : PyData → PyData → Option PyData) (a : PyData) {n : Nat} {xs : List PyData} {σ : Store} (h : σ[n]? = some (.lst xs)) : oq f (.d a) (.loc n) σ = okD σ (f a (.list xs)) := by
 unfold oq okD; simp only [deref, h, Res.of_some, Res.bind_ok]
theorem oq_ld (f : PyData → PyData → Option PyData) (a : PyData) {n : Nat} {xs : List PyData} {σ : Store} (h : σ[n]? = some (.lst xs)) : oq f (.loc n) (.d a) σ = okD σ (f (.list xs) a) := by
 unfold oq okD; simp only [deref, h, Res.of_some, Res.bind_ok]
noncomputable def cmpD (op : Cm) (x y : PyData) : Option PyData := (cmpOp op x y).map .bool
theorem e_con (x : PyData) : evE G C (.con x) fr σ = .ok (.d x) σ := rfl
noncomputable def varK (σ : Store) (o : Option (Option V)) : Res V := match o with | some (some v) => .ok v σ | _ => .stuck
theorem varK_some (v : V) (σ : Store) : varK σ (some (some v)) = .ok v σ := rfl
theorem e_var (i : Nat) : evE G C (.var i) fr σ = varK σ fr[i]? := rfl
noncomputable def globK (σ : Store) (o : Option PyData) : Res V := match o with | some x => .ok (.d x) σ | none => .stuck
theorem globK_some (x : PyData) (σ : Store) : globK σ (some x) = .ok (.d x) σ := rfl
theorem e_glob (i : Nat) : evE G C (.glob i) fr σ = globK σ G[i]? := rfl
theorem e_idx (a i : E) : evE G C (.idx a i) fr σ = k2 (evE G C i fr) (oq idxOp) (evE G C a fr σ) := rfl
theorem e_cmp (op : Cm) (a b : E) : evE G C (.cmp op a b) fr σ = k2 (evE G C b fr) (oq (cmpD op)) (evE G C a fr σ) := rfl
theorem e_bin (op : Op2) (a b : E) : evE G C (.bin op a b) fr σ = k2 (evE G C b fr) (oq (binOp op)) (evE G C a fr σ) := rfl
theorem e_len (a : E) : evE G C (.len a) fr σ = k1 (ou lenOp) (evE G C a fr σ) := rfl
theorem e_toTup (a : E) : evE G C (.toTup a) fr σ = k1 (ou toTupOp) (evE G C a fr σ) := rfl
theorem e_toLst (a : E) : evE G C (.toLst a) fr σ = k1 (ou toLstOp) (evE G C a fr σ) := rfl
noncomputable def notK (v : V) (σ : Store) : Res V := (Res.of σ (asBool v)).bind fun b σ => .ok (.d (.bool (!b))) σ
theorem notK_b (b : Bool) (σ : Store) : notK (.d (.bool b)) σ = .ok (.d (.bool (!b))) σ := rfl
theorem e_not (a : E) : evE G C (.not a) fr σ = k1 notK (evE G C a fr σ) := rfl
noncomputable def negK (v : V) (σ : Store) : Res V := match v with | .d (.int i) => .ok (.d (.int (-i))) σ | _ => .stuck
theorem negK_i (i : Int) (σ : Store) : negK (.d (.int i)) σ = .ok (.d (.int (-i))) σ := rfl
theorem e_neg (a : E) : evE G C (.neg a) fr σ = k1 negK (evE G C a fr σ) := rfl
noncomputable def isBoolK (v : V) (σ : Store) : Res V := match v with | .d (.bool _) => .ok (.d (.bool true)) σ | _ => .stuck
theorem isBoolK_b (b : Bool) (σ : Store) : isBoolK (.d (.bool b)) σ = .ok (.d (.bool true)) σ := rfl
theorem e_isBool (a : E) : evE G C (.isBool a) fr σ = k1 isBoolK (evE G C a fr σ) := rfl
noncomputable def ks (k : List V → Store → Res V) (r : Res (List V)) : Res V := r.bind k
theorem ks_ok (vs : List V) (σ : Store) (k : List V → Store → Res V) : ks k (.ok vs σ) = k vs σ := rfl
theorem ks_err (σ : Store) (k : List V → Store → Res V) : ks k (.err σ) = .err σ := rfl
noncomputable def kc (g : Store → Res (List V)) (r : Res V) : Res (List V) := r.bind fun v σ => (g σ).bind fun vs σ => .ok (v :: vs) σ
noncomputable def kc2 (v : V) (r : Res (List V)) : Res (List V) := r.bind fun vs σ => .ok (v :: vs) σ
theorem kc_ok (v : V) (σ : Store) (g : Store → Res (List V)) : kc g (.ok v σ) = kc2 v (g σ) := rfl
theorem kc_err (σ : Store) (g : Store → Res (List V)) : kc g (.err σ) = .err σ := rfl
theorem kc2_ok (v : V) (vs : List V) (σ : Store) : kc2 v (.ok vs σ) = .ok (v :: vs) σ := rfl
theorem kc2_err (v : V) (σ : Store) : kc2 v (.err σ) = .err σ := rfl
theorem e_nil : evEs G C [] fr σ = .ok [] σ := rfl
theorem e_cons (x : E) (xs : List E) : evEs G C (x :: xs) fr σ = kc (evEs G C xs fr) (evE G C x fr σ) := rfl
noncomputable def tupK (vs : List V) (σ : Store) : Res V := (Res.of σ (allD vs)).bind fun ds σ => .ok (.d (.tuple ds)) σ
noncomputable def lstK (vs : List V) (σ : Store) : Res V := (Res.of σ (allD vs)).bind fun ds σ => .ok (.d (.list ds)) σ
theorem allD_nil : allD [] = some [] := rfl
theorem allD_cons (x : PyData) (r : List V) : allD (.d x :: r) = (allD r).map (x :: ·) := rfl
theorem e_tup (xs : List E) : evE G C (.tup xs) fr σ = ks tupK (evEs G C xs fr σ) := rfl
theorem e_lst (xs : List E) : evE G C (.lst xs) fr σ = ks lstK (evEs G C xs fr σ) := rfl
theorem e_call (f : Nat) (xs : List E) : evE G C (.call f xs) fr σ = ks (C f) (evEs G C xs fr σ) := rfl
noncomputable def ka (g : Store → Res V) (r : Res V) : Res V := r.bind fun v σ => (Res.of σ (asBool v)).bind fun b σ => if b then g σ else .ok (.d (.bool false)) σ
theorem ka_b (b : Bool) (σ : Store) (g : Store → Res V) : ka g (.ok (.d (.bool b)) σ) = if b then g σ else .ok (.d (.bool false)) σ := rfl
theorem ka_t (σ : Store) (g : Store → Res V) : ka g (.ok (.d (.bool true)) σ) = g σ := rfl
theorem ka_f (σ : Store) (g : Store → Res V) : ka g (.ok (.d (.bool false)) σ) = .ok (.d (.bool false)) σ := rfl
theorem ka_err (σ : Store) (g : Store → Res V) : ka g (.err σ) = .err σ := rfl
noncomputable def ko (g : Store → Res V) (r : Res V) : Res V := r.bind fun v σ => (Res.of σ (asBool v)).bind fun b σ => if b then .ok (.d (.bool true)) σ else g σ
theorem ko_b (b : Bool) (σ : Store) (g : Store → Res V) : ko g (.ok (.d (.bool b)) σ) = if b then .ok (.d (.bool true)) σ else g σ := rfl
theorem ko_t (σ : Store) (g : Store → Res V) : ko g (.ok (.d (.bool true)) σ) = .ok (.d (.bool true)) σ := rfl
theorem ko_f (σ : Store) (g : Store → Res V) : ko g (.ok (.d (.bool false)) σ) = g σ := rfl
theorem ko_err (σ : Store) (g : Store → Res V) : ko g (.err σ) = .err σ := rfl
theorem e_and (xs : List E) : evE G C (.and xs) fr σ = evAnd G C xs fr σ := rfl
theorem e_or (xs : List E) : evE G C (.or xs) fr σ = evOr G C xs fr σ := rfl
theorem a_nil : evAnd G C [] fr σ = .ok (.d (.bool true)) σ := rfl
theorem a_cons (x : E) (xs : List E) : evAnd G C (x :: xs) fr σ = ka (evAnd G C xs fr) (evE G C x fr σ) := rfl
theorem o_nil : evOr G C [] fr σ = .ok (.d (.bool false)) σ := rfl
theorem o_cons (x : E) (xs : List E) : evOr G C (x :: xs) fr σ = ko (evOr G C xs fr) (evE G C x fr σ) := rfl
noncomputable def kt (k : V → Store → XR) (r : Res V) : XR := r.then k
theorem kt_ok (v : V) (σ : Store) (k : V → Store → XR) : kt k (.ok v σ) = k v σ := rfl
theorem kt_err (σ : Store) (k : V → Store → XR) : kt k (.err σ) = .err σ := rfl
noncomputable def asgK (t : Tg) (fr : Frame) (v : V) (σ : Store) : XR := (Res.of σ (asg σ t v fr)).then fun fr' σ => .next fr' σ
noncomputable def asgK2 (σ : Store) (o : Option Frame) : XR := (Res.of σ o).then fun fr' σ => .next fr' σ
theorem asgK2_some (σ : Store) (fr : Frame) : asgK2 σ (some fr) = .next fr σ := rfl
theorem asgK_is (t : Tg) (fr : Frame) (v : V) (σ : Store) : asgK t fr v σ = asgK2 σ (asg σ t v fr) := rfl
theorem s_assign (t : Tg) (e : E) : exS G C (.assign t e) fr σ = kt (asgK t fr) (evE G C e fr σ) := rfl
theorem asg_var (i : Nat) (v : V) (fr : Frame) (h : i < fr.length) : asg σ (.var i) v fr = some (fr.set i (some v)) := by ((first | rewrite [Z77] | rewrite [Z78]); rw [setO_is, if_pos h])
theorem asg_varO (i : Nat) (v : V) (fr : Frame) : asg σ (.var i) v fr = setO fr i v := rfl
theorem setO_zero (x : Option V) (r : Frame) (v : V) : setO (x :: r) 0 v = some (some v :: r) := rfl
theorem setO_succ (x : Option V) (r : Frame) (i : Nat) (v : V) : setO (x :: r) (i + 1) v = (setO r i v).map (x :: ·) := rfl
theorem asg_tup (ts : List Tg) (xs : List PyData) (fr : Frame) : asg σ (.tup ts) (.d (.tuple xs)) fr = asgs σ ts xs fr := rfl
theorem asgs_nil (fr : Frame) : asgs σ [] [] fr = some fr := rfl
noncomputable def asgB (k : Frame → Option Frame) (o : Option Frame) : Option Frame := match o with
 | some fr => k fr
 | none => none
theorem asgB_some (fr : Frame) (k : Frame → Option Frame) : asgB k (some fr) = k fr := rfl
theorem asgs_cons (t : Tg) (ts : List Tg) (x : PyData) (xs : List PyData) (fr : Frame) : asgs σ (t :: ts) (x :: xs) fr = asgB (asgs σ ts xs) (asg σ t (.d x) fr) := rfl
noncomputable def retK (v : V) (σ : Store) : XR := .ret v σ
theorem retK_is (v : V) (σ : Store) : retK v σ = .ret v σ := rfl
theorem s_ret (e : E) : exS G C (.ret e) fr σ = kt retK (evE G C e fr σ) := rfl
theorem s_raise : exS G C .raise fr σ = .err σ := rfl
noncomputable def dropK (fr : Frame) (v : V) (σ : Store) : XR := .next fr σ
theorem dropK_is (fr : Frame) (v : V) (σ : Store) : dropK fr v σ = .next fr σ := rfl
theorem s_expr (e : E) : exS G C (.expr e) fr σ = kt (dropK fr) (evE G C e fr σ) := rfl
noncomputable def iteK (A B : Store → XR) (v : V) (σ : Store) : XR := (Res.of σ (asBool v)).then fun t σ => if t then A σ else B σ
theorem iteK_b (A B : Store → XR) (b : Bool) (σ : Store) : iteK A B (.d (.bool b)) σ = if b then A σ else B σ := rfl
theorem iteK_t (A B : Store → XR) (σ : Store) : iteK A B (.d (.bool true)) σ = A σ := rfl
theorem iteK_f (A B : Store → XR) (σ : Store) : iteK A B (.d (.bool false)) σ = B σ := rfl
theorem s_ite (c : E) (a b : List S) : exS G C (.ite c a b) fr σ = kt (iteK (exSs G C a fr) (exSs G C b fr)) (evE G C c fr σ) := rfl
theorem ss_nil : exSs G C [] fr σ = .next fr σ := rfl
theorem ss_cons (s : S) (r : List S) : exSs G C (s :: r) fr σ = (exS G C s fr σ).andThen (exSs G C r) := rfl
theorem an_next (k : Frame → Store → XR) : (XR.next fr σ).andThen k = k fr σ := rfl
theorem an_ret (v : V) (k : Frame → Store → XR) : (XR.ret v σ).andThen k = .ret v σ := rfl
theorem an_err (k : Frame → Store → XR) : (XR.err σ).andThen k = .err σ := rfl
noncomputable def kA (k : Frame → Store → XR) (t : Tg) (fr : Frame) (r : Res V) : XR := (kt (asgK t fr) r).andThen k
noncomputable def kA2 (k : Frame → Store → XR) (σ : Store) (o : Option Frame) : XR := (asgK2 σ o).andThen k
theorem kA_ok (k : Frame → Store → XR) (t : Tg) (fr : Frame) (v : V) (σ : Store) : kA k t fr (.ok v σ) = kA2 k σ (asg σ t v fr) := rfl
theorem kA_err (k : Frame → Store → XR) (t : Tg) (fr : Frame) (σ : Store) : kA k t fr (.err σ) = .err σ := rfl
theorem kA2_some (k : Frame → Store → XR) (σ : Store) (fr : Frame) : kA2 k σ (some fr) = k fr σ := rfl
theorem ss_assign (t : Tg) (e : E) (r : List S) : exSs G C (.assign t e :: r) fr σ = kA (exSs G C r) t fr (evE G C e fr σ) := rfl
noncomputable def kR (k : Frame → Store → XR) (r : Res V) : XR := (kt retK r).andThen k
theorem kR_ok (k : Frame → Store → XR) (v : V) (σ : Store) : kR k (.ok v σ) = .ret v σ := rfl
theorem kR_err (k : Frame → Store → XR) (σ : Store) : kR k (.err σ) = .err σ := rfl
theorem ss_ret (e : E) (r : List S) : exSs G C (.ret e :: r) fr σ = kR (exSs G C r) (evE G C e fr σ) := rfl
noncomputable def kX (k : Frame → Store → XR) (fr : Frame) (r : Res V) : XR := (kt (dropK fr) r).andThen k
theorem kX_ok (k : Frame → Store → XR) (fr : Frame) (v : V) (σ : Store) : kX k fr (.ok v σ) = k fr σ := rfl
theorem kX_err (k : Frame → Store → XR) (fr : Frame) (σ : Store) : kX k fr (.err σ) = .err σ := rfl
theorem ss_expr (e : E) (r : List S) : exSs G C (.expr e :: r) fr σ = kX (exSs G C r) fr (evE G C e fr σ) := rfl
noncomputable def kI (k : Frame → Store → XR) (A B : Store → XR) (r : Res V) : XR := (kt (iteK A B) r).andThen k
theorem kI_t (k : Frame → Store → XR) (A B : Store → XR) (σ : Store) : kI k A B (.ok (.d (.bool true)) σ) = (A σ).andThen k := rfl
theorem kI_f (k : Frame → Store → XR) (A B : Store → XR) (σ : Store) : kI k A B (.ok (.d (.bool false)) σ) = (B σ).andThen k := rfl
theorem kI_err (k : Frame → Store → XR) (A B : Store → XR) (σ : Store) : kI k A B (.err σ) = .err σ := rfl
theorem ss_ite (c : E) (a b : List S) (r : List S) : exSs G C (.ite c a b :: r) fr σ = kI (exSs G C r) (exSs G C a fr) (exSs G C b fr) (evE G C c fr σ) := rfl
theorem ss_raise (r : List S) : exSs G C (.raise :: r) fr σ = .err σ := rfl
theorem ss_newl (i : Nat) (xs : List E) (r : List S) : exSs G C (.newl i xs :: r) fr σ = (exS G C (.newl i xs) fr σ).andThen (exSs G C r) := rfl
theorem ss_newOf (i : Nat) (a : E) (r : List S) : exSs G C (.newOf i a :: r) fr σ = (exS G C (.newOf i a) fr σ).andThen (exSs G C r) := rfl
theorem ss_newd (i : Nat) (r : List S) : exSs G C (.newd i :: r) fr σ = (exS G C (.newd i) fr σ).andThen (exSs G C r) := rfl
theorem ss_setd (i : Nat) (k v : E) (r : List S) : exSs G C (.setd i k v :: r) fr σ = (exS G C (.setd i k v) fr σ).andThen (exSs G C r) := rfl
theorem ss_app (i : Nat) (a : E) (r : List S) : exSs G C (.app i a :: r) fr σ = (exS G C (.app i a) fr σ).andThen (exSs G C r) := rfl
theorem ss_whil (c : E) (b r : List S) : exSs G C (.whil c b :: r) fr σ = (exS G C (.whil c b) fr σ).andThen (exSs G C r) := rfl
theorem ss_fors (t : Tg) (e : E) (b r : List S) : exSs G C (.fors t e b :: r) fr σ = (exS G C (.fors t e b) fr σ).andThen (exSs G C r) := rfl
theorem ss_forr (i : Nat) (as : List E) (b r : List S) : exSs G C (.forr i as b :: r) fr σ = (exS G C (.forr i as b) fr σ).andThen (exSs G C r) := rfl
theorem ss_tryv (i : Nat) (e : E) (r : List S) : exSs G C (.tryv i e :: r) fr σ = (exS G C (.tryv i e) fr σ).andThen (exSs G C r) := rfl
noncomputable def kts (k : List V → Store → XR) (r : Res (List V)) : XR := r.then k
theorem kts_ok (v : List V) (σ : Store) (k : List V → Store → XR) : kts k (.ok v σ) = k v σ := rfl
theorem kts_err (σ : Store) (k : List V → Store → XR) : kts k (.err σ) = .err σ := rfl
noncomputable def newlK (i : Nat) (fr : Frame) (vs : List V) (σ : Store) : XR := (Res.of σ (allD vs)).then fun ds σ => if i < fr.length then .next (fr.set i (some (.loc σ.length))) (σ ++ [.lst ds]) else .stuck
theorem s_newl (i : Nat) (xs : List E) : exS G C (.newl i xs) fr σ = kts (newlK i fr) (evEs G C xs fr σ) := rfl
theorem newlK_is (i : Nat) (fr : Frame) (ds : List PyData) (vs : List V) (σ : Store) (h : i < fr.length) (hd : allD vs = some ds) : newlK i fr vs σ = .next (fr.set i (some (.loc σ.length))) (σ ++ [.lst ds]) := by
 unfold newlK; rw [hd]; simp only [Res.of_some, Res.then_ok, h, if_true]
noncomputable def forK (body : Frame → Store → XR) (t : Tg) (fr : Frame) (v : V) (σ : Store) : XR := match v with
   | .d x => (Res.of σ (itemsOf x)).then fun items σ => forItems body t items fr σ
   | .loc n => (Res.of σ (match σ[n]? with | some (.lst xs) => some xs.length | _ => none)).then fun k σ => forLoc body t n (k + 1) 0 fr σ
theorem s_fors (t : Tg) (e : E) (b : List S) : exS G C (.fors t e b) fr σ = kt (forK (exSs G C b) t fr) (evE G C e fr σ) := rfl
theorem forK_list (body : Frame → Store → XR) (t : Tg) (xs : List PyData) : forK body t fr (.d (.list xs)) σ = forItems body t xs fr σ := rfl
theorem forK_tuple (body : Frame → Store → XR) (t : Tg) (xs : List PyData) : forK body t fr (.d (.tuple xs)) σ = forItems body t xs fr σ := rfl
noncomputable def forS (body : Frame → Store → XR) (σ : Store) (k : Frame → Store → XR) : Option Frame → XR
 | some fr => (body fr σ).andThen k
 | none => .stuck
theorem forS_some (body : Frame → Store → XR) (σ : Store) (k : Frame → Store → XR) (fr : Frame) : forS body σ k (some fr) = (body fr σ).andThen k := rfl
theorem fi_nil (body : Frame → Store → XR) (t : Tg) : forItems body t [] fr σ = .next fr σ := rfl
theorem fi_cons (body : Frame → Store → XR) (t : Tg) (x : PyData) (xs : List PyData) : forItems body t (x :: xs) fr σ = forS body σ (forItems body t xs) (asg σ t (.d x) fr) := rfl
end
theorem take_self (σ : Store) : σ.take σ.length = σ := List.take_length
theorem close_d (n : Nat) (x : PyData) (σ : Store) : close n (.ret (.d x) σ) = .ok (.d x) (σ.take n) := rfl
theorem close_next (n : Nat) (fr : Frame) (σ : Store) : close n (.next fr σ) = .ok (.d .none) (σ.take n) := rfl
theorem close_err (n : Nat) (σ : Store) : close n (.err σ) = .err (σ.take n) := rfl
theorem idx_t0 (x : PyData) (xs : List PyData) : idxOp (.tuple (x :: xs)) (.int 0) = some x := rfl
theorem idx_t1 (x y : PyData) (xs : List PyData) : idxOp (.tuple (x :: y :: xs)) (.int 1) = some y := rfl
theorem idx_t2 (x y z : PyData) (xs : List PyData) : idxOp (.tuple (x :: y :: z :: xs)) (.int 2) = some z := rfl
theorem cmpD_is (op : Cm) (x y : PyData) {b : Bool} (h : cmpOp op x y = some b) : cmpD op x y = some (.bool b) := by unfold cmpD; rw [h]; rfl
theorem cmpD_str (a b : Str) : cmpD .eq (.str a) (.str b) = some (.bool (a == b)) := rfl
theorem cmpD_strn (a b : Str) : cmpD .ne (.str a) (.str b) = some (.bool (!(a == b))) := rfl
theorem q1_2 : (st 1 == st 2) = false := rfl
theorem q1_10 : (st 1 == st 10) = false := rfl
theorem q1_21 : (st 1 == st 21) = false := rfl
theorem q2_1 : (st 2 == st 1) = false := rfl
theorem q2_10 : (st 2 == st 10) = false := rfl
theorem q2_21 : (st 2 == st 21) = false := rfl
theorem q3_4 : (st 3 == st 4) = false := rfl
theorem q3_6 : (st 3 == st 6) = false := rfl
theorem q3_7 : (st 3 == st 7) = false := rfl
theorem q3_8 : (st 3 == st 8) = false := rfl
theorem q4_3 : (st 4 == st 3) = false := rfl
theorem q4_6 : (st 4 == st 6) = false := rfl
theorem q4_7 : (st 4 == st 7) = false := rfl
theorem q4_8 : (st 4 == st 8) = false := rfl
theorem q6_3 : (st 6 == st 3) = false := rfl
theorem q6_4 : (st 6 == st 4) = false := rfl
theorem q6_7 : (st 6 == st 7) = false := rfl
theorem q6_8 : (st 6 == st 8) = false := rfl
theorem q7_3 : (st 7 == st 3) = false := rfl
theorem q7_4 : (st 7 == st 4) = false := rfl
theorem q7_6 : (st 7 == st 6) = false := rfl
theorem q7_8 : (st 7 == st 8) = false := rfl
theorem q7_13 : (st 7 == st 13) = false := rfl
theorem q7_14 : (st 7 == st 14) = false := rfl
theorem q7_15 : (st 7 == st 15) = false := rfl
theorem q7_17 : (st 7 == st 17) = false := rfl
theorem q7_18 : (st 7 == st 18) = false := rfl
theorem q7_19 : (st 7 == st 19) = false := rfl
theorem q7_32 : (st 7 == st 32) = false := rfl
theorem q8_3 : (st 8 == st 3) = false := rfl
theorem q8_4 : (st 8 == st 4) = false := rfl
theorem q8_6 : (st 8 == st 6) = false := rfl
theorem q8_7 : (st 8 == st 7) = false := rfl
theorem q10_1 : (st 10 == st 1) = false := rfl
theorem q10_2 : (st 10 == st 2) = false := rfl
theorem q10_21 : (st 10 == st 21) = false := rfl
theorem q11_6 : (st 11 == st 6) = false := rfl
theorem q11_7 : (st 11 == st 7) = false := rfl
theorem q11_12 : (st 11 == st 12) = false := rfl
theorem q11_13 : (st 11 == st 13) = false := rfl
theorem q11_14 : (st 11 == st 14) = false := rfl
theorem q11_15 : (st 11 == st 15) = false := rfl
theorem q11_16 : (st 11 == st 16) = false := rfl
theorem q11_17 : (st 11 == st 17) = false := rfl
theorem q11_18 : (st 11 == st 18) = false := rfl
theorem q11_19 : (st 11 == st 19) = false := rfl
theorem q11_32 : (st 11 == st 32) = false := rfl
theorem q12_6 : (st 12 == st 6) = false := rfl
theorem q12_7 : (st 12 == st 7) = false := rfl
theorem q12_11 : (st 12 == st 11) = false := rfl
theorem q12_13 : (st 12 == st 13) = false := rfl
theorem q12_14 : (st 12 == st 14) = false := rfl
theorem q12_15 : (st 12 == st 15) = false := rfl
theorem q12_16 : (st 12 == st 16) = false := rfl
theorem q12_17 : (st 12 == st 17) = false := rfl
theorem q12_18 : (st 12 == st 18) = false := rfl
theorem q12_19 : (st 12 == st 19) = false := rfl
theorem q12_32 : (st 12 == st 32) = false := rfl
theorem q13_6 : (st 13 == st 6) = false := rfl
theorem q13_7 : (st 13 == st 7) = false := rfl
theorem q13_14 : (st 13 == st 14) = false := rfl
theorem q13_15 : (st 13 == st 15) = false := rfl
theorem q13_17 : (st 13 == st 17) = false := rfl
theorem q13_18 : (st 13 == st 18) = false := rfl
theorem q13_19 : (st 13 == st 19) = false := rfl
theorem q13_32 : (st 13 == st 32) = false := rfl
theorem q14_6 : (st 14 == st 6) = false := rfl
theorem q14_7 : (st 14 == st 7) = false := rfl
theorem q14_13 : (st 14 == st 13) = false := rfl
theorem q14_15 : (st 14 == st 15) = false := rfl
theorem q14_17 : (st 14 == st 17) = false := rfl
theorem q14_18 : (st 14 == st 18) = false := rfl
theorem q14_19 : (st 14 == st 19) = false := rfl
theorem q14_32 : (st 14 == st 32) = false := rfl
theorem q15_6 : (st 15 == st 6) = false := rfl
theorem q15_7 : (st 15 == st 7) = false := rfl
theorem q15_13 : (st 15 == st 13) = false := rfl
theorem q15_14 : (st 15 == st 14) = false := rfl
theorem q15_17 : (st 15 == st 17) = false := rfl
theorem q15_18 : (st 15 == st 18) = false := rfl
theorem q15_19 : (st 15 == st 19) = false := rfl
theorem q15_32 : (st 15 == st 32) = false := rfl
theorem q16_6 : (st 16 == st 6) = false := rfl
theorem q16_7 : (st 16 == st 7) = false := rfl
theorem q16_11 : (st 16 == st 11) = false := rfl
theorem q16_12 : (st 16 == st 12) = false := rfl
theorem q16_13 : (st 16 == st 13) = false := rfl
theorem q16_14 : (st 16 == st 14) = false := rfl
theorem q16_15 : (st 16 == st 15) = false := rfl
theorem q16_17 : (st 16 == st 17) = false := rfl
theorem q16_18 : (st 16 == st 18) = false := rfl
theorem q16_19 : (st 16 == st 19) = false := rfl
theorem q16_32 : (st 16 == st 32) = false := rfl
theorem q17_6 : (st 17 == st 6) = false := rfl
theorem q18_6 : (st 18 == st 6) = false := rfl
theorem q18_17 : (st 18 == st 17) = false := rfl
theorem q19_6 : (st 19 == st 6) = false := rfl
theorem q19_17 : (st 19 == st 17) = false := rfl
theorem q19_18 : (st 19 == st 18) = false := rfl
theorem q21_1 : (st 21 == st 1) = false := rfl
theorem q21_2 : (st 21 == st 2) = false := rfl
theorem q21_10 : (st 21 == st 10) = false := rfl
theorem q28_29 : (st 28 == st 29) = false := rfl
theorem q29_28 : (st 29 == st 28) = false := rfl
theorem q32_6 : (st 32 == st 6) = false := rfl
theorem q32_17 : (st 32 == st 17) = false := rfl
theorem q32_18 : (st 32 == st 18) = false := rfl
theorem q32_19 : (st 32 == st 19) = false := rfl
theorem q1 : (st 1 == st 1) = true := rfl
theorem q2 : (st 2 == st 2) = true := rfl
theorem q3 : (st 3 == st 3) = true := rfl
theorem q4 : (st 4 == st 4) = true := rfl
theorem q5 : (st 5 == st 5) = true := rfl
theorem q6 : (st 6 == st 6) = true := rfl
theorem q7 : (st 7 == st 7) = true := rfl
theorem q8 : (st 8 == st 8) = true := rfl
theorem q10 : (st 10 == st 10) = true := rfl
theorem q11 : (st 11 == st 11) = true := rfl
theorem q12 : (st 12 == st 12) = true := rfl
theorem q13 : (st 13 == st 13) = true := rfl
theorem q14 : (st 14 == st 14) = true := rfl
theorem q15 : (st 15 == st 15) = true := rfl
theorem q16 : (st 16 == st 16) = true := rfl
theorem q17 : (st 17 == st 17) = true := rfl
theorem q18 : (st 18 == st 18) = true := rfl
theorem q19 : (st 19 == st 19) = true := rfl
theorem q21 : (st 21 == st 21) = true := rfl
theorem q28 : (st 28 == st 28) = true := rfl
theorem q29 : (st 29 == st 29) = true := rfl
theorem q32 : (st 32 == st 32) = true := rfl
end Holk
namespace Holk
open PySem
local macro_rules
 | `(tactic| simp only [EV, $ls,*]) => do
  let mut a := ls.getElems
  for x in "ss_assign ss_ret ss_ite ss_expr ss_raise ss_newl ss_newOf ss_newd ss_setd ss_app ss_whil ss_fors ss_forr ss_tryv kA_ok kA_err kA2_some kR_ok kR_err kX_ok kX_err kI_t kI_f kI_err ss_nil s_ret s_assign s_ite s_raise s_expr e_tup e_lst e_cons e_nil e_con e_var e_glob e_idx e_cmp e_bin e_len e_toTup e_toLst e_not e_neg e_isBool e_call e_and e_or a_nil a_cons o_nil o_cons List.getElem?_cons_zero List.getElem?_cons_succ varK_some globK_some k2_ok k1_ok k2_err k1_err oq_dd ou_d idx_t0 idx_t1 idx_t2 okD_some kc_ok kc2_ok kc_err kc2_err ks_ok ks_err ka_t ka_f ka_err ko_t ko_f ko_err tupK lstK allD_nil allD_cons Option.map_some Res.of_some Res.bind_ok kt_ok kt_err retK_is dropK_is asgK_is asg_varO setO_zero setO_succ asg_tup asgs_nil asgs_cons asgB_some asgK2_some an_next an_ret an_err close_d close_next close_err take_self List.length_cons List.length_nil Nat.reduceAdd Nat.reduceLT List.set_cons_zero List.set_cons_succ cmpD_str cmpD_strn q1_2 q1_10 q1_21 q2_1 q2_10 q2_21 q3_4 q3_6 q3_7 q3_8 q4_3 q4_6 q4_7 q4_8 q6_3 q6_4 q6_7 q6_8 q7_3 q7_4 q7_6 q7_8 q7_13 q7_14 q7_15 q7_17 q7_18 q7_19 q7_32 q8_3 q8_4 q8_6 q8_7 q10_1 q10_2 q10_21 q11_6 q11_7 q11_12 q11_13 q11_14 q11_15 q11_16 q11_17 q11_18 q11_19 q11_32 q12_6 q12_7 q12_11 q12_13 q12_14 q12_15 q12_16 q12_17 q12_18 q12_19 q12_32 q13_6 q13_7 q13_14 q13_15 q13_17 q13_18 q13_19 q13_32 q14_6 q14_7 q14_13 q14_15 q14_17 q14_18 q14_19 q14_32 q15_6 q15_7 q15_13 q15_14 q15_17 q15_18 q15_19 q15_32 q16_6 q16_7 q16_11 q16_12 q16_13 q16_14 q16_15 q16_17 q16_18 q16_19 q16_32 q17_6 q18_6 q18_17 q19_6 q19_17 q19_18 q21_1 q21_2 q21_10 q28_29 q29_28 q32_6 q32_17 q32_18 q32_19 q1 q2 q3 q4 q5 q6 q7 q8 q10 q11 q12 q13 q14 q15 q16 q17 q18 q19 q21 q28 q29 q32 Nat.reduceBEq iteK_t iteK_f notK_b negK_i isBoolK_b Bool.not_true Bool.not_false".splitOn " " do
   a := a.push ⟨(← `(Lean.Parser.Tactic.simpLemma| $(Lean.mkIdent x.toName):ident)).raw⟩
  `(tactic| simp only [$a,*])
noncomputable abbrev CF (n : Nat) : CallT := callF FT G n
theorem G0 : G[0]? = some (eTy .bool) := rfl
theorem pos_of {n k : Nat} (h : k + 1 ≤ n) : ∃ m, n = m + 1 := ⟨n - 1, by exact Bd.pr1 h⟩
theorem call_fn (n : Nat) (a b : PyData) (σ : Store) : CF (n + 1) 0 [.d a, .d b] σ = .ok (.d (.tuple [.str (st 2), a, b])) σ := by
 show close σ.length (exSs G (CF n) b0 [Dv a, Dv b] σ) = _
 simp only [EV, b0]
theorem call_fnT (n : Nat) (a b : Ty) (σ : Store) : CF (n + 1) 0 [.d (eTy a), .d (eTy b)] σ = .ok (.d (eTy (.fn a b))) σ := call_fn n _ _ σ
noncomputable def eqTy : Ty → Bool
 | .fn a b => b.eq (.fn a .bool)
 | _ => false
noncomputable def typeOf : Tm → Option Ty
 | .var _ _ t => some t
 | .con x t => if x.same .eq && !(eqTy t) then none else some t
 | .lam _ _ t b => (typeOf b).map (.fn t)
 | .app f a => (typeOf f).bind fun tf => (typeOf a).bind fun ta => match tf with
  | .fn c d => if c.eq ta then some d else none
  | _ => none
theorem Z73 : typeOf (.var u1 u2 t) = (some t) := rfl
theorem Z74 : typeOf (.con x t) = (if x.same .eq && !(eqTy t) then none else some t) := rfl
theorem Z75 : typeOf (.lam u1 u2 t b) = ((typeOf b).map (.fn t)) := rfl
theorem Z76 : typeOf (.app f a) = ((typeOf f).bind fun tf => (typeOf a).bind fun ta => match tf with
  | .fn c d => if c.eq ta then some d else none
  | _ => none) := rfl
noncomputable def ofTy (σ : Store) : Option Ty → Res V
 | some t => .ok (.d (eTy t)) σ
 | none => .err σ
theorem typeOf_dp : ∀ {t : Tm} {ty : Ty}, typeOf t = some ty → ty.dp ≤ t.dp := by
 intro t
 induction t with
 | var x k t => intro ty h; simp [Z73, Z74, Z75, Z76] at h; subst h; exact Nat.le_refl _
 | con x t =>
  intro ty h
  (first | rw [Z73] at h | rw [Z74] at h | rw [Z75] at h | rw [Z76] at h)
  split at h
  ·cases h
  ·cases h; exact Nat.le_refl _
 | app f a ihf iha =>
  intro ty h
  simp only [Z73, Z74, Z75, Z76] at h
  cases hf : typeOf f with
  | none => rw [hf] at h; cases h
  | some tf =>
   cases ha : typeOf a with
   | none => rw [hf, ha] at h; cases h
   | some ta =>
    rw [hf, ha] at h
    simp only [Option.bind_some] at h
    have := ihf hf
    cases tf <;> simp at h
    obtain ⟨_, rfl⟩ := h
    simp only [Z150, Z151, Z152, Z153, Z114, Z115, Z116, Z117] at this ⊢; exact Bd.td this
 | lam x k t b ih =>
  intro ty h
  simp only [Z73, Z74, Z75, Z76, Option.map_eq_some_iff] at h
  obtain ⟨tb, hb, rfl⟩ := h
  have := ih hb
  simp only [Z150, Z151, Z152, Z153, Z114, Z115, Z116, Z117]; exact Bd.i1 this
theorem cn_st (x : Cn) : (st x.i == st 5) = x.same .eq := cn_eq x .eq
theorem idx_ty0 (t : Ty) : idxOp (eTy t) (.int 0) = some (.str (st (match t with | .bool => 1 | .ind => 21 | .any _ => 10 | .fn _ _ => 2))) := by cases t <;> rfl
theorem call_type_of : ∀ (t : Tm) (n : Nat) (σ : Store), t.dp + 2 ≤ n → t.dp ≤ 800 → CF n 1 [.d (eTm t)] σ = ofTy σ (typeOf t) := by
 intro t
 induction t with
 | var x k t =>
  intro n σ hn hd
  obtain ⟨n, rfl⟩ := pos_of hn
  show close σ.length (exSs G (CF n) b1 [Dv (eTm (.var x k t)), none, none, none, none] σ) = _
  simp only [EV, b1, Z63, Z64, Z65, Z66]
  rfl
 | con x t =>
  intro n σ hn hd
  obtain ⟨n, rfl⟩ := pos_of hn
  obtain ⟨n, rfl⟩ := pos_of (n := n) (k := 0) (by exact Bd.fn hn rfl)
  show close σ.length (exSs G (CF (n + 1)) b1 [Dv (eTm (.con x t)), none, none, none, none] σ) = _
  simp only [EV, b1, Z63, Z64, Z65, Z66, cn_st]
  cases hx : x.same .eq with
  | false => simp only [EV, Z73, Z74, Z75, Z76, hx, Bool.false_and, Bool.false_eq_true, if_false, ofTy]
  | true =>
   cases t with
   | fn a b =>
    simp only [Z114, Z115, Z116, Z117, Z150, Z151, Z152, Z153] at hd
    have hc : cmpD .eq (eTy b) (eTy (.fn a .bool)) = some (.bool (b.eq (.fn a .bool))) := cmpD_is _ _ _ (cmp_ty (by exact Bd.w2 hd rfl))
    simp only [EV, Z89, Z90, Z91, Z92, G0]
    have e1 : (PyData.tuple [PyData.str (st 1)]) = eTy .bool := rfl
    rw [e1, call_fnT]
    simp only [EV, hc]
    cases hb : b.eq (.fn a .bool) <;> simp only [EV, Z73, Z74, Z75, Z76, eqTy, hx, hb, Bool.not_true, Bool.not_false, Bool.and_true, Bool.and_false, Bool.false_eq_true, if_false, if_true, ofTy, Z89, Z90, Z91, Z92]
   | bool => simp only [EV, Z89, Z90, Z91, Z92, Z73, Z74, Z75, Z76, eqTy, hx, Bool.and_true, if_true, ofTy]
   | ind => simp only [EV, Z89, Z90, Z91, Z92, Z73, Z74, Z75, Z76, eqTy, hx, Bool.and_true, if_true, ofTy]
   | any a => simp only [EV, Z89, Z90, Z91, Z92, Z73, Z74, Z75, Z76, eqTy, hx, Bool.and_true, if_true, ofTy]
 | app f a ihf iha =>
  intro n σ hn hd
  simp only [Z114, Z115, Z116, Z117] at hn hd
  obtain ⟨n, rfl⟩ := pos_of hn
  show close σ.length (exSs G (CF n) b1 [Dv (eTm (.app f a)), none, none, none, none] σ) = _
  simp only [EV, b1, Z63, Z64, Z65, Z66]
  rw [ihf n σ (by exact Bd.f1 hn) (by exact Bd.m1 hd)]
  cases hf : typeOf f with
  | none => simp only [EV, ofTy, Z73, Z74, Z75, Z76, hf, Option.bind_none]
  | some tf =>
   simp only [EV, ofTy]
   rw [iha n σ (by exact Bd.f2 hn) (by exact Bd.m2 hd)]
   cases ha : typeOf a with
   | none => simp only [EV, ofTy, Z73, Z74, Z75, Z76, hf, ha, Option.bind_none, Option.bind_some]
   | some ta =>
    have hdp := typeOf_dp hf
    cases tf with
    | fn c d =>
     simp only [Z150, Z151, Z152, Z153] at hdp
     have hc : cmpD .ne (eTy c) (eTy ta) = some (.bool (!(c.eq ta))) := cmpD_is _ _ _ (cmp_ty_ne (by lia))
     simp only [EV, ofTy, Z89, Z90, Z91, Z92, hc]
     cases hq : c.eq ta <;> simp only [EV, Z73, Z74, Z75, Z76, hf, ha, hq, Option.bind_some, if_true, Bool.false_eq_true, if_false, ofTy]
    | bool => simp only [EV, ofTy, Z89, Z90, Z91, Z92, Z73, Z74, Z75, Z76, hf, ha, Option.bind_some]
    | ind => simp only [EV, ofTy, Z89, Z90, Z91, Z92, Z73, Z74, Z75, Z76, hf, ha, Option.bind_some]
    | any x => simp only [EV, ofTy, Z89, Z90, Z91, Z92, Z73, Z74, Z75, Z76, hf, ha, Option.bind_some]
 | lam x k t b ih =>
  intro n σ hn hd
  simp only [Z114, Z115, Z116, Z117] at hn hd
  obtain ⟨n, rfl⟩ := pos_of hn
  show close σ.length (exSs G (CF n) b1 [Dv (eTm (.lam x k t b)), none, none, none, none] σ) = _
  simp only [EV, b1, Z63, Z64, Z65, Z66]
  rw [ih n σ (by exact Bd.f2 hn) (by exact Bd.m2 hd)]
  cases hb : typeOf b with
  | none => simp only [EV, ofTy, Z73, Z74, Z75, Z76, hb, Option.map_none]
  | some tb =>
   obtain ⟨n, rfl⟩ := pos_of (n := n) (k := 0) (by exact Bd.fn hn rfl)
   simp only [EV, ofTy, call_fnT, Z73, Z74, Z75, Z76, hb]
noncomputable def memv (v : Vr) (l : List Vr) : Bool := l.any fun w => w.eq v
theorem memv_iff {v : Vr} {l : List Vr} : memv v l = true ↔ v ∈ l := by
 simp only [memv, List.any_eq_true, Vr.eq_iff]
 exact ⟨fun ⟨w, hw, e⟩ => e ▸ hw, fun h => ⟨v, h, rfl⟩⟩
noncomputable def freeInto : Tm → List Vr → List Vr → List Vr
 | .var x k t, b, o => if memv ⟨x, k, t⟩ b || memv ⟨x, k, t⟩ o then o else o ++ [⟨x, k, t⟩]
 | .con _ _, _, o => o
 | .app f a, b, o => freeInto a b (freeInto f b o)
 | .lam x k t e, b, o => freeInto e (b ++ [⟨x, k, t⟩]) o
theorem Z25 : freeInto (.var x k t) b o = (if memv ⟨x, k, t⟩ b || memv ⟨x, k, t⟩ o then o else o ++ [⟨x, k, t⟩]) := rfl
theorem Z26 : freeInto (.con u1 u2) u3 o = (o) := rfl
theorem Z27 : freeInto (.app f a) b o = (freeInto a b (freeInto f b o)) := rfl
theorem Z28 : freeInto (.lam x k t e) b o = (freeInto e (b ++ [⟨x, k, t⟩]) o) := rfl
noncomputable def freeV (t : Tm) : List Vr := freeInto t [] []
noncomputable def Tm.sz : Tm → Nat
 | .var _ _ _ => 1
 | .con _ _ => 0
 | .app f a => f.sz + a.sz
 | .lam _ _ _ b => b.sz
theorem Z130 : Tm.sz (.var u1 u2 u3) = (1) := rfl
theorem Z131 : Tm.sz (.con u1 u2) = (0) := rfl
theorem Z132 : Tm.sz (.app f a) = (f.sz + a.sz) := rfl
theorem Z133 : Tm.sz (.lam u1 u2 u3 b) = (b.sz) := rfl
theorem freeInto_len : ∀ (t : Tm) (b o : List Vr), (freeInto t b o).length ≤ o.length + t.sz := by
 intro t
 induction t with
 | var x k t => intro b o; (first | rw [Z25] | rw [Z26] | rw [Z27] | rw [Z28]); split <;> simp [Z130, Z131, Z132, Z133]
 | con x t => intro b o; simp [Z25, Z26, Z27, Z28, Z130, Z131, Z132, Z133]
 | app f a ihf iha => intro b o; have := ihf b o; have := iha b (freeInto f b o); simp only [Z25, Z26, Z27, Z28, Z130, Z131, Z132, Z133]; with_reducible exact Bd.tr ‹_› this
 | lam x k t e ih => intro b o; exact ih _ o
theorem eVr_depth (v : Vr) : (eVr v).depth ≤ v.t.dp + 2 := by have := depth_ty v.t; simp only [eVr, PyData.depth, PyData.depthAll]; (apply Bd.sc; (apply Bd.mx <;> (first | exact Bd.zz | (with_reducible apply Bd.mx <;> (first | exact Bd.zz | (with_reducible apply Bd.mx <;> (first | exact this | exact Bd.zz)))))))
theorem any_vr (v : Vr) : ∀ l : List Vr, ((l.map eVr).any fun y => PyData.eqv y (eVr v)) = memv v l
 | [] => rfl
 | w :: r => by
  have := any_vr v r
  simp only [List.map_cons, List.any_cons, eqv_vr, memv] at this ⊢; rw [this]
theorem nmem_vr {x : Bs} {k : Nat} {t : Ty} (l : List Vr) (h : t.dp ≤ 900) : cmpD .nmem (.tuple [.str (st 3), .str (nm x k), eTy t]) (.list (l.map eVr)) = some (.bool (!memv ⟨x, k, t⟩ l)) := by
 have hd := eVr_depth ⟨x, k, t⟩
 refine cmpD_is _ _ _ ?_
 show (memOp (eVr ⟨x, k, t⟩) (.list (l.map eVr))).map (!·) = _
 rw [mem_lst, if_pos (.inl (by simp only [dlim]; have : (⟨x, k, t⟩ : Vr).t.dp = t.dp := rfl; exact Bd.t1 hd h rfl)), any_vr]; rfl
theorem mem_vr {x : Bs} {k : Nat} {t : Ty} (l : List Vr) (h : t.dp ≤ 900) : cmpD .mem (.tuple [.str (st 3), .str (nm x k), eTy t]) (.list (l.map eVr)) = some (.bool (memv ⟨x, k, t⟩ l)) := by
 have hd := eVr_depth ⟨x, k, t⟩
 refine cmpD_is _ _ _ ?_
 show (memOp (eVr ⟨x, k, t⟩) (.list (l.map eVr))) = _
 rw [mem_lst, if_pos (.inl (by simp only [dlim]; have : (⟨x, k, t⟩ : Vr).t.dp = t.dp := rfl; exact Bd.t1 hd h rfl)), any_vr]
noncomputable def appK (n : Nat) (fr : Frame) (v : V) (σ : Store) : XR := match v, σ[n]? with
     | .d x, some (.lst xs) => if xs.length ≤ lim then .next fr (σ.set n (.lst (xs ++ [x]))) else .stuck
     | _, _ => .stuck
theorem s_app {G : List PyData} {C : CallT} {fr : Frame} {σ : Store} {i n : Nat} {ys : List PyData} (e : E) (h : fr[i]? = some (some (.loc n))) (hσ : σ[n]? = some (.lst ys)) : exS G C (.app i e) fr σ = kt (appK n fr) (evE G C e fr σ) := by
 (first | rw [exx_assign, h] | rw [exx_newl, h] | rw [exx_newOf, h] | rw [exx_newd, h] | rw [exx_setd, h] | rw [exx_app, h] | rw [exx_expr, h] | rw [exx_ite, h] | rw [exx_whil, h] | rw [exx_fors, h] | rw [exx_forr, h] | rw [exx_ret, h] | rw [exx_raise, h] | rw [exx_tryv, h]); dsimp only; rw [hσ]; rfl
theorem appK_is {fr : Frame} {σ : Store} {n : Nat} {ys : List PyData} (x : PyData) (hσ : σ[n]? = some (.lst ys)) (hl : ys.length ≤ lim) : appK n fr (.d x) σ = .next fr (σ.set n (.lst (ys ++ [x]))) := by
 unfold appK; rw [hσ]; dsimp only; rw [if_pos hl]
theorem set_take (σ : Store) (k : Nat) (c : Cell) : (σ.set k c).take σ.length = σ.set k c := by
 have : (σ.set k c).length = σ.length := by simp
 rw [← this, List.take_length]
theorem set_get {σ : Store} {k : Nat} {c c' : Cell} (h : σ[k]? = some c) : (σ.set k c')[k]? = some c' := by
 have := (List.getElem?_eq_some_iff.mp h).1; simp [this]
theorem set_self {σ : Store} {k : Nat} {c : Cell} (h : σ[k]? = some c) : σ.set k c = σ := by
 obtain ⟨h1, h2⟩ := List.getElem?_eq_some_iff.mp h
 rw [← h2]; simp
theorem bin_list {a b : List PyData} (h : a.length + b.length ≤ lim) : binOp .add (.list a) (.list b) = some (.list (a ++ b)) := by rw [bin_addL, if_pos h]
theorem call_free_into : ∀ (t : Tm) (n : Nat) (σ : Store) (k : Nat) (bd o : List Vr), t.dp + 2 ≤ n → t.dp ≤ 800 → σ[k]? = some (.lst (o.map eVr)) → bd.length + t.dp ≤ 100000 → o.length + t.sz ≤ 100000 →
  CF n 2 [.d (eTm t), .d (.list (bd.map eVr)), .loc k] σ = .ok (.d .none) (σ.set k (.lst ((freeInto t bd o).map eVr))) := by
 intro t
 induction t with
 | var x k t =>
  intro n σ j bd o hn hd hσ hb ho
  obtain ⟨n, rfl⟩ := pos_of hn
  simp only [Z114, Z115, Z116, Z117, Z130, Z131, Z132, Z133] at hd ho
  show close σ.length (exSs G (CF n) b2 [Dv (eTm (.var x k t)), Dv (.list (bd.map eVr)), some (.loc j)] σ) = _
  simp only [EV, b2, Z63, Z64, Z65, Z66, nmem_vr bd (show t.dp ≤ 900 by exact Bd.wk hd rfl)]
  cases hm : memv ⟨x, k, t⟩ bd with
  | true => simp only [EV, Z25, Z26, Z27, Z28, hm, Bool.true_or, if_true, set_self hσ]
  | false =>
   simp only [EV, oq_dl _ _ hσ, nmem_vr o (show t.dp ≤ 900 by exact Bd.wk hd rfl)]
   cases hm' : memv ⟨x, k, t⟩ o with
   | true => simp only [EV, Z25, Z26, Z27, Z28, hm, hm', Bool.or_true, if_true, set_self hσ]
   | false =>
    simp only [EV, k1_ok]
    rw [s_app _ rfl hσ]
    simp only [EV, appK_is _ hσ (show (o.map eVr).length ≤ lim by simp [lim]; lia), set_take, Z25, Z26, Z27, Z28, hm, hm', Bool.or_false, Bool.false_eq_true, if_false, List.map_append, List.map_cons, List.map_nil, eVr]
 | con x t =>
  intro n σ j bd o hn hd hσ hb ho
  obtain ⟨n, rfl⟩ := pos_of hn
  show close σ.length (exSs G (CF n) b2 [Dv (eTm (.con x t)), Dv (.list (bd.map eVr)), some (.loc j)] σ) = _
  simp only [EV, b2, Z63, Z64, Z65, Z66, Z25, Z26, Z27, Z28, set_self hσ]
 | app f a ihf iha =>
  intro n σ j bd o hn hd hσ hb ho
  simp only [Z114, Z115, Z116, Z117, Z130, Z131, Z132, Z133] at hn hd hb ho
  obtain ⟨n, rfl⟩ := pos_of hn
  have hfl := freeInto_len f bd o
  show close σ.length (exSs G (CF n) b2 [Dv (eTm (.app f a)), Dv (.list (bd.map eVr)), some (.loc j)] σ) = _
  simp only [EV, b2, Z63, Z64, Z65, Z66]
  rw [ihf n σ j bd o (by exact Bd.f1 hn) (by exact Bd.m1 hd) hσ (by exact Bd.s1 hb) (by lia)]
  simp only [EV, k1_ok]
  rw [iha n _ j bd (freeInto f bd o) (by exact Bd.f2 hn) (by exact Bd.m2 hd) (set_get hσ) (by exact Bd.s2 hb) (by exact Bd.ov ho hfl)]
  simp only [EV, List.set_set, set_take, Z25, Z26, Z27, Z28]
 | lam x k t b ih =>
  intro n σ j bd o hn hd hσ hb ho
  simp only [Z114, Z115, Z116, Z117, Z130, Z131, Z132, Z133] at hn hd hb ho
  obtain ⟨n, rfl⟩ := pos_of hn
  show close σ.length (exSs G (CF n) b2 [Dv (eTm (.lam x k t b)), Dv (.list (bd.map eVr)), some (.loc j)] σ) = _
  simp only [EV, b2, Z63, Z64, Z65, Z66, bin_list (show (bd.map eVr).length + [PyData.tuple [PyData.str (st 3), PyData.str (nm x k), eTy t]].length ≤ lim by simp [lim]; lia)]
  have e : bd.map eVr ++ [PyData.tuple [PyData.str (st 3), PyData.str (nm x k), eTy t]] = (bd ++ [(⟨x, k, t⟩ : Vr)]).map eVr := by simp [eVr]
  rw [e, ih n σ j (bd ++ [(⟨x, k, t⟩ : Vr)]) o (by exact Bd.f2 hn) (by exact Bd.m2 hd) hσ (by simp; exact Bd.s3 hb) (by exact ho)]
  simp only [EV, set_take, Z25, Z26, Z27, Z28]
theorem get_last (σ : Store) (c : Cell) : (σ ++ [c])[σ.length]? = some c := by simp
theorem set_last (σ : Store) (c c' : Cell) : (σ ++ [c]).set σ.length c' = σ ++ [c'] := by simp
theorem take_last (σ : Store) (c : Cell) : (σ ++ [c]).take σ.length = σ := by simp
theorem close_loc (σ : Store) (xs : List PyData) : close σ.length (.ret (.loc σ.length) (σ ++ [.lst xs])) = .ok (.d (.list xs)) σ := by
 simp [close]
theorem call_free (t : Tm) (n : Nat) (σ : Store) (hn : t.dp + 3 ≤ n) (hd : t.dp ≤ 800) (hs : t.sz ≤ 100000) : CF n 3 [.d (eTm t)] σ = .ok (.d (.list ((freeV t).map eVr))) σ := by
 obtain ⟨n, rfl⟩ := pos_of hn
 show close σ.length (exSs G (CF n) b3 [Dv (eTm t), none] σ) = _
 simp only [b3, ss_cons, s_newl, e_nil, kts_ok]
 rw [newlK_is 1 _ [] [] σ (by simp) rfl]
 simp only [EV, k1_ok]
 have h := call_free_into t n (σ ++ [.lst []]) σ.length [] [] (by exact Bd.sb hn rfl) hd (get_last σ _) (by simp; exact Bd.wk hd rfl) (by simpa using hs)
 simp only [List.map_nil] at h
 rw [h]
 simp only [EV, set_last, close_loc]
 rfl
inductive Db where | bound (i : Nat) | var (x : Bs) (k : Nat) (t : Ty) | con (x : Cn) (t : Ty) | app (f a : Db) | lam (t : Ty) (b : Db)
noncomputable def Db.eq : Db → Db → Bool
 | .bound i, e => match e with
  | .bound j => i == j
  | _ => false
 | .var x k t, e => match e with
  | .var y l u => x.same y && k == l && t.eq u
  | _ => false
 | .con x t, e => match e with
  | .con y u => x.same y && t.eq u
  | _ => false
 | .app f a, e => match e with
  | .app g b => f.eq g && a.eq b
  | _ => false
 | .lam t a, e => match e with
  | .lam u b => t.eq u && a.eq b
  | _ => false
theorem Z9 : Db.eq (.bound i) e = (match e with
  | .bound j => i == j
  | _ => false) := rfl
theorem Z10 : Db.eq (.var x k t) e = (match e with
  | .var y l u => x.same y && k == l && t.eq u
  | _ => false) := rfl
theorem Z11 : Db.eq (.con x t) e = (match e with
  | .con y u => x.same y && t.eq u
  | _ => false) := rfl
theorem Z12 : Db.eq (.app f a) e = (match e with
  | .app g b => f.eq g && a.eq b
  | _ => false) := rfl
theorem Z13 : Db.eq (.lam t a) e = (match e with
  | .lam u b => t.eq u && a.eq b
  | _ => false) := rfl
theorem Db.eq_iff : ∀ {a b : Db}, a.eq b = true ↔ a = b := by
 intro a
 induction a with
 | bound i => intro b; cases b <;> simp [Z9, Z10, Z11, Z12, Z13]
 | var x k t => intro b; cases b <;> simp [Z9, Z10, Z11, Z12, Z13, Bs.same_iff, Ty.eq_iff, and_assoc]
 | con x t => intro b; cases b <;> simp [Z9, Z10, Z11, Z12, Z13, Cn.same_iff, Ty.eq_iff]
 | app f a ihf iha => intro b; cases b <;> simp [Z9, Z10, Z11, Z12, Z13, ihf, iha]
 | lam t a ih => intro b; cases b <;> simp [Z9, Z10, Z11, Z12, Z13, Ty.eq_iff, ih]
noncomputable def Db.dp : Db → Nat
 | .bound _ => 0
 | .var _ _ t => t.dp
 | .con _ t => t.dp
 | .app f a => max f.dp a.dp + 1
 | .lam t b => max t.dp b.dp + 1
theorem Z48 : Db.dp (.bound u1) = (0) := rfl
theorem Z49 : Db.dp (.var u1 u2 t) = (t.dp) := rfl
theorem Z50 : Db.dp (.con u1 t) = (t.dp) := rfl
theorem Z51 : Db.dp (.app f a) = (max f.dp a.dp + 1) := rfl
theorem Z52 : Db.dp (.lam t b) = (max t.dp b.dp + 1) := rfl
noncomputable def eDb : Db → PyData
 | .bound i => .tuple [.str (st 8), .int i]
 | .var x k t => .tuple [.str (st 3), .str (nm x k), eTy t]
 | .con x t => .tuple [.str (st 4), .str (st x.i), eTy t]
 | .app f a => .tuple [.str (st 7), eDb f, eDb a]
 | .lam t b => .tuple [.str (st 6), eTy t, eDb b]
theorem Z101 : eDb (.bound i) = (.tuple [.str (st 8), .int i]) := rfl
theorem Z102 : eDb (.var x k t) = (.tuple [.str (st 3), .str (nm x k), eTy t]) := rfl
theorem Z103 : eDb (.con x t) = (.tuple [.str (st 4), .str (st x.i), eTy t]) := rfl
theorem Z104 : eDb (.app f a) = (.tuple [.str (st 7), eDb f, eDb a]) := rfl
theorem Z105 : eDb (.lam t b) = (.tuple [.str (st 6), eTy t, eDb b]) := rfl
theorem ev_int (i j : Int) : PyData.eqv (.int i) (.int j) = (i == j) := rfl
theorem eqv_db : ∀ a b : Db, PyData.eqv (eDb a) (eDb b) = a.eq b := by
 intro a
 induction a with
 | bound i => intro b; cases b <;> simp [Z101, Z102, Z103, Z104, Z105, Z9, Z10, Z11, Z12, Z13, ev_str, ev_tup, ev_int, ea_nil, ea_cons, ea_nc, ea_cn, st_eq]; rw [Bool.eq_iff_iff]; simp; exact Bd.oi
 | var x k t => intro b; cases b <;> simp [Z101, Z102, Z103, Z104, Z105, Z9, Z10, Z11, Z12, Z13, ev_str, ev_tup, ea_nil, ea_cons, ea_nc, ea_cn, st_eq, nm_eq, eqv_ty, Bool.and_assoc]
 | con x t => intro b; cases b <;> simp [Z101, Z102, Z103, Z104, Z105, Z9, Z10, Z11, Z12, Z13, ev_str, ev_tup, ea_nil, ea_cons, ea_nc, ea_cn, st_eq, cn_eq, eqv_ty]
 | app f a ihf iha => intro b; cases b <;> simp [Z101, Z102, Z103, Z104, Z105, Z9, Z10, Z11, Z12, Z13, ev_str, ev_tup, ea_nil, ea_cons, ea_nc, ea_cn, st_eq, ihf, iha]
 | lam t a ih => intro b; cases b <;> simp [Z101, Z102, Z103, Z104, Z105, Z9, Z10, Z11, Z12, Z13, ev_str, ev_tup, ea_nil, ea_cons, ea_nc, ea_cn, st_eq, eqv_ty, ih]
theorem depth_db : ∀ t : Db, (eDb t).depth ≤ t.dp + 2
 | .bound i => by simp [Z101, Z102, Z103, Z104, Z105, PyData.depth, PyData.depthAll]
 | .var x k t => by have := depth_ty t; simp only [Z101, Z102, Z103, Z104, Z105, PyData.depth, PyData.depthAll, Z48, Z49, Z50, Z51, Z52]; (apply Bd.sc; (apply Bd.mx <;> (first | exact Bd.zz | (with_reducible apply Bd.mx <;> (first | exact Bd.zz | (with_reducible apply Bd.mx <;> (first | exact this | exact Bd.zz)))))))
 | .con x t => by have := depth_ty t; simp only [Z101, Z102, Z103, Z104, Z105, PyData.depth, PyData.depthAll, Z48, Z49, Z50, Z51, Z52]; (apply Bd.sc; (apply Bd.mx <;> (first | exact Bd.zz | (with_reducible apply Bd.mx <;> (first | exact Bd.zz | (with_reducible apply Bd.mx <;> (first | exact this | exact Bd.zz)))))))
 | .app f a => by
  have := depth_db f; have := depth_db a
  simp only [Z101, Z102, Z103, Z104, Z105, PyData.depth, PyData.depthAll, Z48, Z49, Z50, Z51, Z52]; with_reducible exact Bd.iz ‹_› this
 | .lam t b => by
  have := depth_ty t; have := depth_db b
  simp only [Z101, Z102, Z103, Z104, Z105, PyData.depth, PyData.depthAll, Z48, Z49, Z50, Z51, Z52]; with_reducible exact Bd.iw ‹_› this
noncomputable def lastIdx (v : Vr) (env : List Vr) : Nat → Option Nat
 | 0 => none
 | j + 1 => if (match env[j]? with | some w => w.eq v | none => false) then some j else lastIdx v env j
theorem Z106 : lastIdx v env 0 = (none) := rfl
theorem Z107 : lastIdx v env (j + 1) = (if (match env[j]? with | some w => w.eq v | none => false) then some j else lastIdx v env j) := rfl
noncomputable def normV (v : Vr) (env : List Vr) : Db := match lastIdx v env env.length with
 | some i => .bound i
 | none => .var v.x v.k v.t
noncomputable def norm : Tm → List Vr → Db
 | .var x k t, env => normV ⟨x, k, t⟩ env
 | .con x t, _ => .con x t
 | .app f a, env => .app (norm f env) (norm a env)
 | .lam x k t e, env => .lam t (norm e (env ++ [⟨x, k, t⟩]))
theorem Z41 : norm (.var x k t) env = (normV ⟨x, k, t⟩ env) := rfl
theorem Z42 : norm (.con x t) u1 = (.con x t) := rfl
theorem Z43 : norm (.app f a) env = (.app (norm f env) (norm a env)) := rfl
theorem Z44 : norm (.lam x k t e) env = (.lam t (norm e (env ++ [⟨x, k, t⟩]))) := rfl
noncomputable def alike (a b : Tm) : Bool := (norm a []).eq (norm b [])
theorem norm_dp : ∀ (t : Tm) (env : List Vr), (norm t env).dp ≤ t.dp := by
 intro t
 induction t with
 | var x k t => intro env; simp only [Z41, Z42, Z43, Z44, normV]; split <;> simp [Z48, Z49, Z50, Z51, Z52, Z114, Z115, Z116, Z117]
 | con x t => intro env; simp [Z41, Z42, Z43, Z44, Z48, Z49, Z50, Z51, Z52, Z114, Z115, Z116, Z117]
 | app f a ihf iha => intro env; have := ihf env; have := iha env; simp only [Z41, Z42, Z43, Z44, Z48, Z49, Z50, Z51, Z52, Z114, Z115, Z116, Z117]; with_reducible exact Bd.i0 ‹_› this
 | lam x k t e ih => intro env; have := ih (env ++ [⟨x, k, t⟩]); simp only [Z41, Z42, Z43, Z44, Z48, Z49, Z50, Z51, Z52, Z114, Z115, Z116, Z117]; exact Bd.i1 this
noncomputable def forrK (body : Frame → Store → XR) (i : Nat) (fr : Frame) (vs : List V) (σ : Store) : XR := (Res.of σ ((allD vs).bind rangeOf)).then fun items σ => forItems body (.var i) items fr σ
theorem s_forr {G : List PyData} {C : CallT} {fr : Frame} {σ : Store} (i : Nat) (args : List E) (b : List S) : exS G C (.forr i args b) fr σ = kts (forrK (exSs G C b) i fr) (evEs G C args fr σ) := by rw [exx_forr]; rfl
theorem len_list (xs : List PyData) (h : xs.length ≤ lim) : lenOp (.list xs) = some (.int xs.length) := by rw [len_l, if_pos h]
theorem len_tup (xs : List PyData) (h : xs.length ≤ lim) : lenOp (.tuple xs) = some (.int xs.length) := by rw [len_t, if_pos h]
theorem sub_int (a b : Int) : binOp .sub (.int a) (.int b) = some (.int (a - b)) := rfl
theorem at0_nat (j : Nat) (h : j < 1000) : at0 (j : Int) = some j := by
 show (if j < lim then some j else none) = some j
 rw [if_pos (by simp only [lim]; exact Bd.ll h rfl)]
theorem idx_list (xs : List PyData) (j : Nat) (h : j < 1000) : idxOp (.list xs) (.int j) = xs[j]? := by
 show ((at0 (j : Int)).bind fun n => xs[n]?) = _
 rw [at0_nat j h]; rfl
theorem norm_loop (n : Nat) (x : Bs) (k : Nat) (t : Ty) (env : List Vr) (σ : Store) (ht : t.dp ≤ 900) (body : List S)
  (hbody : body = [.ite (.cmp .eq (.idx (.var 1) (.var 2)) (.var 0)) [.ret (.tup [(Qs 8), (.var 2)])] []]) : ∀ (j : Nat) (w : Option V), j ≤ env.length → env.length ≤ 900 →
  ∃ w', forItems (exSs G (CF n) body) (.var 2) ((List.range j).map fun (i : Nat) => PyData.int (((j : Nat) : Int) - 1 + -1 * i)) [Dv (eTm (.var x k t)), Dv (.list (env.map eVr)), w] σ =
   match lastIdx ⟨x, k, t⟩ env j with
   | some i => .ret (.d (eDb (.bound i))) σ
   | none => .next [Dv (eTm (.var x k t)), Dv (.list (env.map eVr)), w'] σ := by
 subst hbody
 intro j
 induction j with
 | zero => intro w _ _; exact ⟨w, by simp [Z106, Z107, fi_nil]⟩
 | succ j ih =>
  intro w hj he
  have hlt : j < env.length := by lia
  obtain ⟨w', hw'⟩ := ih (Iv j) (by lia) he
  refine ⟨w', ?_⟩
  have hr : ((List.range (j + 1)).map fun (i : Nat) => PyData.int (((j + 1 : Nat) : Int) - 1 + -1 * i)) = .int j :: (List.range j).map fun (i : Nat) => PyData.int (((j : Nat) : Int) - 1 + -1 * i) := by
   rw [List.range_succ_eq_map, List.map_cons, List.map_map]
   congr 1
   ·congr 1; lia
   ·refine List.map_congr_left fun i _ => ?_
    simp only [Function.comp]
    congr 1; lia
  rw [hr, fi_cons]
  have hget : (env.map eVr)[j]? = some (eVr env[j]) := by simp [hlt]
  have hc : cmpD .eq (eVr env[j]) (.tuple [.str (st 3), .str (nm x k), eTy t]) = some (.bool (env[j].eq ⟨x, k, t⟩)) := by
   have hd := eVr_depth ⟨x, k, t⟩
   refine cmpD_is _ _ _ ?_
   show cmpOp .eq (eVr env[j]) (eVr ⟨x, k, t⟩) = _
   rw [cmp_e, if_pos (.inl (by simp only [dlim]; have : (⟨x, k, t⟩ : Vr).t.dp = t.dp := rfl; exact Bd.t1 hd ht rfl)), eqv_vr]
  simp only [EV, forS_some, idx_list _ j (show j < 1000 by lia), hget, Z63, Z64, Z65, Z66, hc]
  cases hq : env[j].eq ⟨x, k, t⟩ with
  | true => simp only [EV, Z106, Z107, List.getElem?_eq_getElem hlt, hq, if_true, Z101, Z102, Z103, Z104, Z105]
  | false =>
   simp only [EV, Z106, Z107, List.getElem?_eq_getElem hlt, hq, Bool.false_eq_true, if_false]
   exact hw'
theorem call_norm : ∀ (t : Tm) (n : Nat) (σ : Store) (env : List Vr), t.dp + 2 ≤ n → t.dp ≤ 800 → env.length + t.dp ≤ 900 → CF n 4 [.d (eTm t), .d (.list (env.map eVr))] σ = .ok (.d (eDb (norm t env))) σ := by
 intro t
 induction t with
 | var x k t =>
  intro n σ env hn hd he
  obtain ⟨n, rfl⟩ := pos_of hn
  simp only [Z114, Z115, Z116, Z117] at hd he
  show close σ.length (exSs G (CF n) b4 [Dv (eTm (.var x k t)), Dv (.list (env.map eVr)), none] σ) = _
  obtain ⟨w', hw'⟩ := norm_loop n x k t env σ (by exact Bd.wk hd rfl) _ rfl env.length none (Nat.le_refl _) (by lia)
  simp only [EV, b4]
  have h0 : evE G (CF n) (.cmp .eq (Qx 0 0) (Qs 3)) [Dv (eTm (.var x k t)), Dv (.list (env.map eVr)), none] σ = .ok (.d (.bool true)) σ := by
   simp only [EV, Z63, Z64, Z65, Z66]
  simp only [EV, Z63, Z64, Z65, Z66, s_forr, len_list (env.map eVr) (by simp [lim]; lia), sub_int, kts_ok, forrK, Option.bind_some, List.length_map]
  have hr : rangeOf [.int ((env.length : Int) - 1), .int (-1), .int (-1)] = some ((List.range env.length).map fun (i : Nat) => PyData.int ((env.length : Int) - 1 + -1 * i)) := by
   rw [range_3, if_pos ⟨rfl, rfl, by lia, by lia⟩]
   have : ((env.length : Int) - 1 + 1).toNat = env.length := by lia
   rw [this]
  rw [hr]
  simp only [Res.of_some, Res.then_ok]
  simp only [Z63, Z64, Z65, Z66] at hw'
  rw [hw']
  simp only [Z41, Z42, Z43, Z44, normV]
  cases lastIdx ⟨x, k, t⟩ env env.length with
  | some i => simp only [EV, k1_ok]
  | none => simp only [EV, Z101, Z102, Z103, Z104, Z105]
 | con x t =>
  intro n σ env hn hd he
  obtain ⟨n, rfl⟩ := pos_of hn
  show close σ.length (exSs G (CF n) b4 [Dv (eTm (.con x t)), Dv (.list (env.map eVr)), none] σ) = _
  simp only [EV, b4, Z63, Z64, Z65, Z66, Z41, Z42, Z43, Z44, Z101, Z102, Z103, Z104, Z105]
 | app f a ihf iha =>
  intro n σ env hn hd he
  simp only [Z114, Z115, Z116, Z117] at hn hd he
  obtain ⟨n, rfl⟩ := pos_of hn
  show close σ.length (exSs G (CF n) b4 [Dv (eTm (.app f a)), Dv (.list (env.map eVr)), none] σ) = _
  simp only [EV, b4, Z63, Z64, Z65, Z66]
  rw [ihf n σ env (by exact Bd.f1 hn) (by exact Bd.m1 hd) (by exact Bd.s1 he)]
  simp only [EV, k1_ok]
  rw [iha n σ env (by exact Bd.f2 hn) (by exact Bd.m2 hd) (by exact Bd.s2 he)]
  simp only [EV, Z41, Z42, Z43, Z44, Z101, Z102, Z103, Z104, Z105]
 | lam x k t b ih =>
  intro n σ env hn hd he
  simp only [Z114, Z115, Z116, Z117] at hn hd he
  obtain ⟨n, rfl⟩ := pos_of hn
  show close σ.length (exSs G (CF n) b4 [Dv (eTm (.lam x k t b)), Dv (.list (env.map eVr)), none] σ) = _
  simp only [EV, b4, Z63, Z64, Z65, Z66, bin_list (show (env.map eVr).length + [PyData.tuple [PyData.str (st 3), PyData.str (nm x k), eTy t]].length ≤ lim by simp [lim]; lia)]
  have e : env.map eVr ++ [PyData.tuple [PyData.str (st 3), PyData.str (nm x k), eTy t]] = (env ++ [(⟨x, k, t⟩ : Vr)]).map eVr := by simp [eVr]
  rw [e, ih n σ (env ++ [(⟨x, k, t⟩ : Vr)]) (by exact Bd.f2 hn) (by exact Bd.m2 hd) (by simp; exact Bd.s3 he)]
  simp only [EV, Z41, Z42, Z43, Z44, Z101, Z102, Z103, Z104, Z105]
theorem call_alike (a b : Tm) (n : Nat) (σ : Store) (ha : a.dp + 3 ≤ n) (hb : b.dp + 3 ≤ n) (ha' : a.dp ≤ 800) (hb' : b.dp ≤ 800) : CF n 5 [.d (eTm a), .d (eTm b)] σ = .ok (.d (.bool (alike a b))) σ := by
 obtain ⟨n, rfl⟩ := pos_of ha
 show close σ.length (exSs G (CF n) b5 [Dv (eTm a), Dv (eTm b)] σ) = _
 have h1 := call_norm a n σ [] (by exact Bd.sb ha rfl) ha' (by simp; exact Bd.wk ha' rfl)
 have h2 := call_norm b n σ [] (by exact Bd.sb hb rfl) hb' (by simp; exact Bd.wk hb' rfl)
 simp only [List.map_nil] at h1 h2
 have hc : cmpD .eq (eDb (norm a [])) (eDb (norm b [])) = some (.bool (alike a b)) := by
  have := depth_db (norm a []); have := norm_dp a []
  refine cmpD_is _ _ _ ?_
  rw [cmp_e, if_pos (.inr (by simp only [dlim]; lia)), eqv_db]; rfl
 simp only [EV, b5, h1, h2, hc]
inductive Its (σ : Store) : V → List PyData → Prop
 | list (xs : List PyData) : Its σ (.d (.list xs)) xs
 | tuple (xs : List PyData) : Its σ (.d (.tuple xs)) xs
 | loc {k : Nat} {xs : List PyData} : σ[k]? = some (.lst xs) → Its σ (.loc k) xs
theorem Its.len {σ : Store} {pv : V} {xs : List PyData} (h : Its σ pv xs) (hl : xs.length ≤ lim) : ou lenOp pv σ = .ok (.d (.int xs.length)) σ := by
 cases h with
 | list => rw [ou_d, len_list _ hl]; rfl
 | tuple => rw [ou_d, len_tup _ hl]; rfl
 | loc h => rw [ou_l _ h, len_list _ hl]; rfl
section
variable {body : Frame → Store → XR} {t : Tg} {σ : Store}
theorem find_items {β : Type} (enc : β → PyData) (p : β → Option PyData) (Fp : Frame → Prop)
  (hstep : ∀ fr x, Fp fr → ∃ fr1, asg σ t (.d (enc x)) fr = some fr1 ∧ (match p x with | some r => body fr1 σ = .ret (.d r) σ | none => ∃ fr2, Fp fr2 ∧ body fr1 σ = .next fr2 σ)) :
  ∀ (items : List β) (fr : Frame), Fp fr → ∃ fr', Fp fr' ∧ forItems body t (items.map enc) fr σ = match items.findSome? p with | some r => .ret (.d r) σ | none => .next fr' σ
 | [], fr, h => ⟨fr, h, rfl⟩
 | x :: xs, fr, h => by
  obtain ⟨fr1, h1, h2⟩ := hstep fr x h
  rw [List.map_cons, fi_cons, h1, forS_some, List.findSome?_cons]
  cases hp : p x with
  | some r => rw [hp] at h2; rw [h2]; exact ⟨fr, h, rfl⟩
  | none =>
   rw [hp] at h2
   obtain ⟨fr2, h3, h4⟩ := h2
   obtain ⟨fr', h5, h6⟩ := find_items enc p Fp hstep xs fr2 h3
   exact ⟨fr', h5, by rw [h4]; exact h6⟩
theorem find_loc {β : Type} (enc : β → PyData) (p : β → Option PyData) (Fp : Frame → Prop) {k : Nat} {all : List PyData} (hk : σ[k]? = some (.lst all))
  (hstep : ∀ fr x, Fp fr → ∃ fr1, asg σ t (.d (enc x)) fr = some fr1 ∧ (match p x with | some r => body fr1 σ = .ret (.d r) σ | none => ∃ fr2, Fp fr2 ∧ body fr1 σ = .next fr2 σ)) :
  ∀ (items : List β) (i fuel : Nat) (fr : Frame), all.drop i = items.map enc → items.length < fuel → Fp fr → ∃ fr', Fp fr' ∧ forLoc body t k fuel i fr σ = match items.findSome? p with | some r => .ret (.d r) σ | none => .next fr' σ
 | [], i, 0, fr, hd, hf, h => by simp at hf
 | [], i, fuel + 1, fr, hd, hf, h => by
  have : all[i]? = none := by
   rw [List.getElem?_eq_none_iff]
   simpa using hd
  exact ⟨fr, h, by ((first | rewrite [Z17] | rewrite [Z18]); rw [hk]); dsimp only; rw [this]; rfl⟩
 | x :: xs, i, 0, fr, hd, hf, h => by simp at hf
 | x :: xs, i, fuel + 1, fr, hd, hf, h => by
  have hi : all[i]? = some (enc x) := by
   have := congrArg (fun l => l[0]?) hd
   simpa using this
  have hd' : all.drop (i + 1) = xs.map enc := by
   have := congrArg List.tail hd
   simpa using this
  obtain ⟨fr1, h1, h2⟩ := hstep fr x h
  ((first | rewrite [Z17] | rewrite [Z18]); rw [hk]); dsimp only; rw [hi]; dsimp only; rw [h1]; dsimp only
  rw [List.findSome?_cons]
  cases hp : p x with
  | some r => rw [hp] at h2; rw [h2]; exact ⟨fr, h, rfl⟩
  | none =>
   rw [hp] at h2
   obtain ⟨fr2, h3, h4⟩ := h2
   obtain ⟨fr', h5, h6⟩ := find_loc enc p Fp hk hstep xs (i + 1) fuel fr2 hd' (by simp at hf; exact hf) h3
   exact ⟨fr', h5, by rw [h4]; exact h6⟩
theorem for_find {β : Type} (enc : β → PyData) (p : β → Option PyData) (Fp : Frame → Prop) {pv : V} {items : List β} (hi : Its σ pv (items.map enc))
  (hstep : ∀ fr x, Fp fr → ∃ fr1, asg σ t (.d (enc x)) fr = some fr1 ∧ (match p x with | some r => body fr1 σ = .ret (.d r) σ | none => ∃ fr2, Fp fr2 ∧ body fr1 σ = .next fr2 σ)) {fr : Frame} (hfr : Fp fr) :
  ∃ fr', Fp fr' ∧ forK body t fr pv σ = match items.findSome? p with | some r => .ret (.d r) σ | none => .next fr' σ := by
 generalize hx : items.map enc = xs at hi
 cases hi with
 | list => rw [forK_list, ← hx]; exact find_items enc p Fp hstep items fr hfr
 | tuple => rw [forK_tuple, ← hx]; exact find_items enc p Fp hstep items fr hfr
 | loc h =>
  rename_i k
  have : forK body t fr (.loc k) σ = forLoc body t k (xs.length + 1) 0 fr σ := by unfold forK; dsimp only; rw [h]; rfl
  rw [this]
  exact find_loc enc p Fp h hstep items 0 _ fr (by simpa using hx.symm) (by rw [← hx]; simp) hfr
theorem fold_items {α β : Type} (enc : β → PyData) (frO : α → Frame) (σO : α → Store) (step : α → β → α) (P : α → List β → Prop)
  (hstep : ∀ a x r, P a (x :: r) → ∃ fr1, asg (σO a) t (.d (enc x)) (frO a) = some fr1 ∧ body fr1 (σO a) = .next (frO (step a x)) (σO (step a x)) ∧ P (step a x) r) :
  ∀ (items : List β) (a : α), P a items → forItems body t (items.map enc) (frO a) (σO a) = .next (frO (items.foldl step a)) (σO (items.foldl step a))
 | [], a, h => rfl
 | x :: xs, a, h => by
  obtain ⟨fr1, h1, h2, h3⟩ := hstep a x xs h
  rw [List.map_cons, fi_cons, h1, forS_some, h2, an_next, List.foldl_cons]
  exact fold_items enc frO σO step P hstep xs (step a x) h3
theorem fold_loc {α β : Type} (enc : β → PyData) (frO : α → Frame) (σO : α → Store) (step : α → β → α) (P : α → List β → Prop) {k : Nat} {all : List PyData} (hk : ∀ a r, P a r → (σO a)[k]? = some (.lst all))
  (hstep : ∀ a x r, P a (x :: r) → ∃ fr1, asg (σO a) t (.d (enc x)) (frO a) = some fr1 ∧ body fr1 (σO a) = .next (frO (step a x)) (σO (step a x)) ∧ P (step a x) r) :
  ∀ (items : List β) (i fuel : Nat) (a : α), all.drop i = items.map enc → items.length < fuel → P a items → forLoc body t k fuel i (frO a) (σO a) = .next (frO (items.foldl step a)) (σO (items.foldl step a))
 | [], i, 0, a, hd, hf, h => by simp at hf
 | [], i, fuel + 1, a, hd, hf, h => by
  have : all[i]? = none := by
   rw [List.getElem?_eq_none_iff]
   simpa using hd
  ((first | rewrite [Z17] | rewrite [Z18]); rw [hk a _ h]); dsimp only; rw [this]; rfl
 | x :: xs, i, 0, a, hd, hf, h => by simp at hf
 | x :: xs, i, fuel + 1, a, hd, hf, h => by
  have hi : all[i]? = some (enc x) := by
   have := congrArg (fun l => l[0]?) hd
   simpa using this
  have hd' : all.drop (i + 1) = xs.map enc := by
   have := congrArg List.tail hd
   simpa using this
  obtain ⟨fr1, h1, h2, h3⟩ := hstep a x xs h
  ((first | rewrite [Z17] | rewrite [Z18]); rw [hk a _ h]); dsimp only; rw [hi]; dsimp only; rw [h1]; dsimp only
  rw [h2, an_next, List.foldl_cons]
  exact fold_loc enc frO σO step P hk hstep xs (i + 1) fuel (step a x) hd' (by simp at hf; exact hf) h3
theorem for_fold {α β : Type} (enc : β → PyData) (frO : α → Frame) (σO : α → Store) (step : α → β → α) (P : α → List β → Prop) {pv : V} {items : List β} {a : α} (hi : Its (σO a) pv (items.map enc))
  (hk : ∀ k all, (σO a)[k]? = some (.lst all) → pv = .loc k → ∀ b r, P b r → (σO b)[k]? = some (.lst all))
  (hstep : ∀ a x r, P a (x :: r) → ∃ fr1, asg (σO a) t (.d (enc x)) (frO a) = some fr1 ∧ body fr1 (σO a) = .next (frO (step a x)) (σO (step a x)) ∧ P (step a x) r) (hP : P a items) :
  forK body t (frO a) pv (σO a) = .next (frO (items.foldl step a)) (σO (items.foldl step a)) := by
 generalize hx : items.map enc = xs at hi
 cases hi with
 | list => rw [forK_list, ← hx]; exact fold_items enc frO σO step P hstep items a hP
 | tuple => rw [forK_tuple, ← hx]; exact fold_items enc frO σO step P hstep items a hP
 | loc h =>
  rename_i k
  have : forK body t (frO a) (.loc k) (σO a) = forLoc body t k (xs.length + 1) 0 (frO a) (σO a) := by unfold forK; dsimp only; rw [h]; rfl
  rw [this]
  exact fold_loc enc frO σO step P (hk k xs h rfl) hstep items 0 _ a (by simpa using hx.symm) (by rw [← hx]; simp) hP
end
theorem comp_map {β : Type} (enc : β → PyData) (g : β → Option PyData) {f : PyData → Store → Res (Option PyData)} {σ : Store} : ∀ (items : List β), (∀ x ∈ items, f (enc x) σ = .ok (g x) σ) → compItems f (items.map enc) σ = .ok (items.filterMap g) σ
 | [], _ => rfl
 | x :: xs, h => by
  (rewrite [List.map_cons]; (first | rewrite [Z79] | rewrite [Z80]); rw [h x List.mem_cons_self, Res.bind_ok, comp_map enc g xs fun y hy => h y (List.mem_cons_of_mem _ hy), Res.bind_ok, List.filterMap_cons])
  cases g x <;> rfl
noncomputable def compK (G : List PyData) (C : CallT) (n : Nat) (elt : E) (t : Tg) (ifs : List E) (fr : Frame) (v : V) (σ : Store) : Res V := match v with
   | .d x => (Res.of σ (itemsOf x)).bind fun items σ =>
     if items.length ≤ lim then
     (compItems (fun y σ => (Res.of σ (asg σ t (.d y) (fr ++ List.replicate n none))).bind fun fr' σ => (evAnd G C ifs fr' σ).bind fun b σ => (Res.of σ (asBool b)).bind fun b σ =>
      if b then (evE G C elt fr' σ).bind fun r σ => match r with
       | .d z => .ok (some z) σ
       | .loc _ => .stuck
      else .ok none σ) items σ).bind fun ys σ => .ok (.d (.list ys)) σ
     else .stuck
   | .loc _ => .stuck
theorem e_comp {G : List PyData} {C : CallT} {fr : Frame} {σ : Store} (n : Nat) (elt : E) (t : Tg) (it : E) (ifs : List E) : evE G C (.comp n elt t it ifs) fr σ = k1 (compK G C n elt t ifs fr) (evE G C it fr σ) := by rw [evx_comp]; rfl
theorem compK_is {G : List PyData} {C : CallT} {fr : Frame} {σ : Store} {n : Nat} {elt : E} {t : Tg} {ifs : List E} {β : Type} (enc : β → PyData) (g : β → Option PyData) {items : List β} {d : PyData} (hd : itemsOf d = some (items.map enc)) (hl : items.length ≤ lim)
  (h : ∀ x ∈ items, ((Res.of σ (asg σ t (.d (enc x)) (fr ++ List.replicate n none))).bind fun fr' σ => (evAnd G C ifs fr' σ).bind fun b σ => (Res.of σ (asBool b)).bind fun b σ =>
      if b then (evE G C elt fr' σ).bind fun r σ => match r with
       | .d z => .ok (some z) σ
       | .loc _ => .stuck
      else .ok none σ) = .ok (g x) σ) : compK G C n elt t ifs fr (.d d) σ = .ok (.d (.list (items.filterMap g))) σ := by
 unfold compK
 dsimp only
 rw [hd, Res.of_some, Res.bind_ok, if_pos (by simpa using hl), comp_map enc g items h, Res.bind_ok]
noncomputable abbrev Pr := Vr × Tm
noncomputable abbrev Nx := Bs × Nat
noncomputable def ePr (p : Pr) : PyData := .tuple [eVr p.1, eTm p.2]
noncomputable def eNx (p : Nx) : PyData := .str (nm p.1 p.2)
noncomputable def nxOf (v : Vr) : Nx := (v.x, v.k)
noncomputable def memn (x : Bs) (k : Nat) (l : List Nx) : Bool := l.any fun n => n.1.same x && n.2 == k
noncomputable def lookP (v : Vr) : List Pr → Option Tm
 | [] => none
 | (w, s) :: r => if w.eq v then some s else lookP v r
theorem Z93 : lookP v ([]) = (none) := rfl
theorem Z94 : lookP v ((w, s) :: r) = (if w.eq v then some s else lookP v r) := rfl
noncomputable def freshK (names : List Nx) (x : Bs) : Nat → Nat → Nat
 | 0, k => k
 | f + 1, k => if memn x k names then freshK names x f (k + 1) else k
theorem Z83 : freshK names x 0 k = (k) := rfl
theorem Z84 : freshK names x (f + 1) k = (if memn x k names then freshK names x f (k + 1) else k) := rfl
noncomputable def innerOf (v : Vr) (here : List Vr) (ps : List Pr) : List Pr := ps.filter fun p => !(p.1.eq v) && memv p.1 here
noncomputable def namesOf (here : List Vr) (inner : List Pr) : List Nx := here.map nxOf ++ inner.flatMap fun p => (freeV p.2).map nxOf
noncomputable def caughtBy (v : Vr) (inner : List Pr) : Bool := inner.any fun p => memv v (freeV p.2)
noncomputable def put : Tm → List Pr → Tm
 | .con x t, _ => .con x t
 | .var x k t, ps => (lookP ⟨x, k, t⟩ ps).getD (.var x k t)
 | .app f a, ps => if ps.isEmpty then .app f a else .app (put f ps) (put a ps)
 | .lam x k t b, ps => if ps.isEmpty then .lam x k t b else
   if caughtBy ⟨x, k, t⟩ (innerOf ⟨x, k, t⟩ (freeV b) ps) then
    .lam x (freshK (namesOf (freeV b) (innerOf ⟨x, k, t⟩ (freeV b) ps)) x 900 k) t
     (put b (innerOf ⟨x, k, t⟩ (freeV b) ps ++ [(⟨x, k, t⟩, .var x (freshK (namesOf (freeV b) (innerOf ⟨x, k, t⟩ (freeV b) ps)) x 900 k) t)]))
   else .lam x k t (put b (innerOf ⟨x, k, t⟩ (freeV b) ps))
theorem Z33 : put (.con x t) u1 = (.con x t) := rfl
theorem Z34 : put (.var x k t) ps = ((lookP ⟨x, k, t⟩ ps).getD (.var x k t)) := rfl
theorem Z35 : put (.app f a) ps = (if ps.isEmpty then .app f a else .app (put f ps) (put a ps)) := rfl
theorem Z36 : put (.lam x k t b) ps = (if ps.isEmpty then .lam x k t b else
   if caughtBy ⟨x, k, t⟩ (innerOf ⟨x, k, t⟩ (freeV b) ps) then
    .lam x (freshK (namesOf (freeV b) (innerOf ⟨x, k, t⟩ (freeV b) ps)) x 900 k) t
     (put b (innerOf ⟨x, k, t⟩ (freeV b) ps ++ [(⟨x, k, t⟩, .var x (freshK (namesOf (freeV b) (innerOf ⟨x, k, t⟩ (freeV b) ps)) x 900 k) t)]))
   else .lam x k t (put b (innerOf ⟨x, k, t⟩ (freeV b) ps))) := rfl
noncomputable def Tm.pk : Tm → Nat
 | .var _ k _ => k
 | .con _ _ => 0
 | .app f a => max f.pk a.pk
 | .lam _ k _ b => max k b.pk
theorem Z122 : Tm.pk (.var u1 k u2) = (k) := rfl
theorem Z123 : Tm.pk (.con u1 u2) = (0) := rfl
theorem Z124 : Tm.pk (.app f a) = (max f.pk a.pk) := rfl
theorem Z125 : Tm.pk (.lam u1 k u2 b) = (max k b.pk) := rfl
theorem free_pk : ∀ (t : Tm) (b o : List Vr) (M : Nat), t.pk ≤ M → (∀ v ∈ o, v.k ≤ M) → ∀ v ∈ freeInto t b o, v.k ≤ M := by
 intro t
 induction t with
 | var x k t =>
  intro b o M h ho v hv
  (first | rw [Z25] at hv | rw [Z26] at hv | rw [Z27] at hv | rw [Z28] at hv)
  split at hv
  ·exact ho v hv
  ·rcases List.mem_append.mp hv with q | q
   ·exact ho v q
   ·simp at q; subst q; exact h
 | con x t => intro b o M h ho v hv; exact ho v hv
 | app f a ihf iha => intro b o M h ho v hv; simp only [Z122, Z123, Z124, Z125] at h; exact iha b _ M (by exact Bd.l2 h) (ihf b o M (by exact Bd.l1 h) ho) v hv
 | lam x k t e ih => intro b o M h ho v hv; simp only [Z122, Z123, Z124, Z125] at h; exact ih _ o M (by exact Bd.l2 h) ho v hv
theorem free_dp : ∀ (t : Tm) (b o : List Vr) (D : Nat), t.dp ≤ D → (∀ v ∈ o, v.t.dp ≤ D) → ∀ v ∈ freeInto t b o, v.t.dp ≤ D := by
 intro t
 induction t with
 | var x k t =>
  intro b o M h ho v hv
  (first | rw [Z25] at hv | rw [Z26] at hv | rw [Z27] at hv | rw [Z28] at hv)
  split at hv
  ·exact ho v hv
  ·rcases List.mem_append.mp hv with q | q
   ·exact ho v q
   ·simp at q; subst q; exact h
 | con x t => intro b o M h ho v hv; exact ho v hv
 | app f a ihf iha => intro b o M h ho v hv; simp only [Z114, Z115, Z116, Z117] at h; exact iha b _ M (by exact Bd.m2 h) (ihf b o M (by exact Bd.m1 h) ho) v hv
 | lam x k t e ih => intro b o M h ho v hv; simp only [Z114, Z115, Z116, Z117] at h; exact ih _ o M (by exact Bd.m2 h) ho v hv
theorem any_nx (x : Bs) (k : Nat) : ∀ l : List Nx, ((l.map eNx).any fun y => PyData.eqv y (.str (nm x k))) = memn x k l
 | [] => rfl
 | w :: r => by
  have := any_nx x k r
  simp only [List.map_cons, List.any_cons, memn, eNx, ev_str, nm_eq] at this ⊢; rw [this]
theorem mem_nx (x : Bs) (k : Nat) (l : List Nx) : cmpD .mem (.str (nm x k)) (.list (l.map eNx)) = some (.bool (memn x k l)) := by
 refine cmpD_is _ _ _ ?_
 show memOp (.str (nm x k)) (.list (l.map eNx)) = _
 rw [mem_lst, if_pos (.inl (by simp [PyData.depth])), any_nx]
noncomputable def whilK (c : Frame → Store → Res V) (body : Frame → Store → XR) (fr : Frame) (σ : Store) : XR := whileLoop c body 1000 fr σ
theorem s_whil {G : List PyData} {C : CallT} {fr : Frame} {σ : Store} (c : E) (b : List S) : exS G C (.whil c b) fr σ = whilK (evE G C c) (exSs G C b) fr σ := by rw [exx_whil]; rfl
theorem add_str {a b : Str} (h : a.length + b.length ≤ lim) : binOp .add (.str a) (.str b) = some (.str (a ++ b)) := by rw [bin_addS, if_pos h]
theorem nm_len (x : Bs) (k : Nat) : (nm x k).length = k + 1 := by
 show (nm x k).cps.size = _
 rw [nm_cps]; simp; lia
theorem fresh_loop (n : Nat) (x : Bs) (names : List Nx) (σ : Store) (a0 a1 a2 a3 a4 a5 a6 a7 a9 a11 : Option V) : ∀ (f fuel k : Nat), (∃ j, j < f ∧ memn x (k + j) names = false) → f < fuel → k + f ≤ 2000 →
  whileLoop (evE G (CF n) (.cmp .mem (.var 10) (.var 8))) (exSs G (CF n) [.assign (.var 10) (.bin .add (.var 10) (Qs 9))]) fuel [a0, a1, a2, a3, a4, a5, a6, a7, Dv (.list (names.map eNx)), a9, Dv (.str (nm x k)), a11] σ =
   .next [a0, a1, a2, a3, a4, a5, a6, a7, Dv (.list (names.map eNx)), a9, Dv (.str (nm x (freshK names x f k))), a11] σ
 | 0, fuel, k, h, hf, hk => by obtain ⟨j, hj, _⟩ := h; lia
 | f + 1, 0, k, h, hf, hk => by lia
 | f + 1, fuel + 1, k, h, hf, hk => by
  (first | rw [Z61] | rw [Z62])
  have e1 : evE G (CF n) (.cmp .mem (.var 10) (.var 8)) [a0, a1, a2, a3, a4, a5, a6, a7, Dv (.list (names.map eNx)), a9, Dv (.str (nm x k)), a11] σ = .ok (.d (.bool (memn x k names))) σ := by
   simp only [EV, mem_nx]
  rw [e1]
  simp only [Res.then_ok, asBool, Res.of_some]
  cases hm : memn x k names with
  | false => simp only [Bool.false_eq_true, if_false, Z83, Z84, hm]
  | true =>
   simp only [if_true, Z83, Z84, hm]
   have e2 : exSs G (CF n) [.assign (.var 10) (.bin .add (.var 10) (Qs 9))] [a0, a1, a2, a3, a4, a5, a6, a7, Dv (.list (names.map eNx)), a9, Dv (.str (nm x k)), a11] σ =
     .next [a0, a1, a2, a3, a4, a5, a6, a7, Dv (.list (names.map eNx)), a9, Dv (.str (nm x (k + 1))), a11] σ := by
    have hl : (nm x k).length + (st 9).length ≤ lim := by
     have : (st 9).length = 1 := by decide
     rw [nm_len, this]; simp only [lim]; lia
    simp only [EV, add_str hl, Z144, Z145]
   rw [e2, an_next]
   refine fresh_loop n x names σ a0 a1 a2 a3 a4 a5 a6 a7 a9 a11 f fuel (k + 1) ?_ (by lia) (by lia)
   obtain ⟨j, hj, hq⟩ := h
   cases j with
   | zero => rw [Nat.add_zero, hm] at hq; cases hq
   | succ j => exact ⟨j, by lia, by rw [show k + 1 + j = k + (j + 1) by lia]; exact hq⟩
theorem memn_big {x : Bs} {k M : Nat} {l : List Nx} (h : ∀ n ∈ l, n.2 ≤ M) (hk : M < k) : memn x k l = false := by
 simp only [memn, List.any_eq_false, Bool.and_eq_true, beq_iff_eq, not_and]
 intro n hn _ q
 have := h n hn; lia
theorem freshK_le (names : List Nx) (x : Bs) (M : Nat) (hM : ∀ n ∈ names, n.2 ≤ M) : ∀ f k, k ≤ M + 1 → freshK names x f k ≤ M + 1
 | 0, k, h => h
 | f + 1, k, h => by
  (first | rw [Z83] | rw [Z84])
  split
  ·rename_i hm
   rcases Nat.lt_or_ge M k with q | q
   ·rw [memn_big hM q] at hm; cases hm
   ·exact freshK_le names x M hM f (k + 1) (by lia)
  ·exact h
theorem cmp_vr (v : Vr) {x : Bs} {k : Nat} {t : Ty} (h : t.dp ≤ 900) : cmpD .eq (eVr v) (.tuple [.str (st 3), .str (nm x k), eTy t]) = some (.bool (v.eq ⟨x, k, t⟩)) := by
 have hd := eVr_depth ⟨x, k, t⟩
 refine cmpD_is _ _ _ ?_
 show cmpOp .eq (eVr v) (eVr ⟨x, k, t⟩) = _
 rw [cmp_e, if_pos (.inl (by simp only [dlim]; have : (⟨x, k, t⟩ : Vr).t.dp = t.dp := rfl; exact Bd.t1 hd h rfl)), eqv_vr]
theorem cmp_vrn (v : Vr) {x : Bs} {k : Nat} {t : Ty} (h : t.dp ≤ 900) : cmpD .ne (eVr v) (.tuple [.str (st 3), .str (nm x k), eTy t]) = some (.bool (!(v.eq ⟨x, k, t⟩))) := by
 have hd := eVr_depth ⟨x, k, t⟩
 refine cmpD_is _ _ _ ?_
 show cmpOp .ne (eVr v) (eVr ⟨x, k, t⟩) = _
 rw [cmp_n, if_pos (.inl (by simp only [dlim]; have : (⟨x, k, t⟩ : Vr).t.dp = t.dp := rfl; exact Bd.t1 hd h rfl)), eqv_vr]
theorem mem_vr' (v : Vr) (l : List Vr) (h : v.t.dp ≤ 900) : cmpD .mem (eVr v) (.list (l.map eVr)) = some (.bool (memv v l)) := by
 obtain ⟨x, k, t⟩ := v; exact mem_vr l h
theorem cmp_int (a b : Int) : cmpD .eq (.int a) (.int b) = some (.bool (a == b)) := by
 refine cmpD_is _ _ _ ?_
 rw [cmp_e, if_pos (.inl (by simp [PyData.depth])), ev_int]
theorem idx_pr0 (p : Pr) : idxOp (ePr p) (.int 0) = some (eVr p.1) := rfl
theorem idx_vr1 (v : Vr) : idxOp (eVr v) (.int 1) = some (eNx (nxOf v)) := rfl
theorem names_comp (n : Nat) (it : E) (l : List Vr) (fr : Frame) (σ : Store) (hfr : fr.length = 12) (hl : l.length ≤ 100000) (hit : evE G (CF n) it fr σ = .ok (.d (.list (l.map eVr))) σ) :
  evE G (CF n) (.comp 2 (Qx 13 1) (.var 13) it []) fr σ = .ok (.d (.list ((l.map nxOf).map eNx))) σ := by
 rw [e_comp, hit, k1_ok]
 have h13 : (fr ++ List.replicate 2 (none : Option V)).length = 14 := by simp [hfr]
 rw [compK_is (n := 2) eVr (fun v => some (eNx (nxOf v))) (items := l) rfl (by simp only [lim]; exact Bd.wk hl rfl)]
 ·congr 3
  induction l with
  | nil => rfl
  | cons a l ih => simp
 ·intro v _
  rw [asg_var _ _ _ (by rw [h13]; decide)]
  have hg : ((fr ++ List.replicate 2 none).set 13 (some (V.d (eVr v))))[13]? = some (Dv (eVr v)) := by
   rw [List.getElem?_set_self (by rw [h13]; decide)]
  simp only [Res.of_some, Res.bind_ok, a_nil, asBool, if_true, e_idx, e_var, hg, varK_some, k2_ok, e_con, k1_ok, oq_dd, idx_vr1, okD_some]
structure St where
 ps : List Pr
 cg : Bool
 nx : List Nx
 w : Option V
 s : Option V
 ar : Option V
noncomputable def stepP (v : Vr) (here : List Vr) (a : St) (p : Pr) : St :=
 if !(p.1.eq v) && memv p.1 here then ⟨a.ps ++ [p], if memv v (freeV p.2) then true else a.cg, a.nx ++ (freeV p.2).map nxOf, Dv (eVr p.1), Dv (eTm p.2), Dv (.list ((freeV p.2).map eVr))⟩
 else { a with w := Dv (eVr p.1), s := Dv (eTm p.2) }
theorem fold_stepP (v : Vr) (here : List Vr) : ∀ (ps : List Pr) (a : St), (ps.foldl (stepP v here) a).ps = a.ps ++ innerOf v here ps ∧ (ps.foldl (stepP v here) a).cg = (a.cg || caughtBy v (innerOf v here ps)) ∧ (ps.foldl (stepP v here) a).nx = a.nx ++ (innerOf v here ps).flatMap fun p => (freeV p.2).map nxOf
 | [], a => by simp [innerOf, caughtBy]
 | p :: ps, a => by
  obtain ⟨h1, h2, h3⟩ := fold_stepP v here ps (stepP v here a p)
  rw [List.foldl_cons, h1, h2, h3]
  unfold stepP innerOf caughtBy
  cases hc : (!(p.1.eq v) && memv p.1 here) with
  | false => simp [hc]
  | true =>
   simp only [hc, if_true, List.filter_cons, List.any_cons, List.flatMap_cons, List.append_assoc, List.cons_append, List.nil_append, and_true, true_and]
   cases memv v (freeV p.2) <;> cases a.cg <;> simp
structure Bd (D : Nat) (ps : List Pr) (t : Tm) (n M : Nat) : Prop where
 td : t.dp ≤ D
 hD : D ≤ 300
 fuel : t.dp + D + 6 ≤ n
 sz : t.sz ≤ 1000
 pd : ∀ p ∈ ps, p.2.dp ≤ D ∧ p.1.t.dp ≤ D ∧ p.2.sz ≤ 100 ∧ p.2.pk ≤ M
 len : ps.length + t.dp ≤ 400
 pk : t.pk ≤ M
 hM : M + t.dp ≤ 800
theorem put_nil (t : Tm) : put t [] = t := by cases t <;> simp [Z33, Z34, Z35, Z36, Z93, Z94]
theorem Its.more {σ : Store} {pv : V} {xs : List PyData} (h : Its σ pv xs) (c : Cell) : Its (σ ++ [c]) pv xs := by
 cases h with
 | list => exact .list _
 | tuple => exact .tuple _
 | loc h => exact .loc (by rw [List.getElem?_append_left (List.getElem?_eq_some_iff.mp h).1]; exact h)
theorem find_lookP (v : Vr) : ∀ ps : List Pr, ps.findSome? (fun p => if p.1.eq v then some (eTm p.2) else none) = (lookP v ps).map eTm
 | [] => rfl
 | (w, s) :: r => by
  (rewrite [List.findSome?_cons]; (first | rw [Z93] | rw [Z94]))
  cases h : w.eq v with
  | true => simp [h]
  | false => simp [h]; exact find_lookP v r
theorem inner_sub {v : Vr} {here : List Vr} {ps : List Pr} {p : Pr} (h : p ∈ innerOf v here ps) : p ∈ ps := (List.mem_filter.mp h).1
theorem inner_len (v : Vr) (here : List Vr) (ps : List Pr) : (innerOf v here ps).length ≤ ps.length := List.length_filter_le ..
theorem put_loop (n : Nat) (pv : V) (lm : PyData) (x : Bs) (k : Nat) (t : Ty) (here : List Vr) (ps : List Pr) (σ : Store) (D M : Nat) (ht : t.dp ≤ D) (hD : D ≤ 300) (hn : D + 3 ≤ n) (hps : ∀ p ∈ ps, p.2.dp ≤ D ∧ p.1.t.dp ≤ D ∧ p.2.sz ≤ 100 ∧ p.2.pk ≤ M) (hlen : ps.length ≤ 400) (hh : here.length ≤ 1000)
  (hi : Its σ pv (ps.map ePr)) : ∃ w s ar, forK (exSs G (CF n) [.ite (.and [(.cmp .ne (.var 7) (.var 2)), (.cmp .mem (.var 7) (.var 4))]) [.app 5 (.tup [(.var 7), (.var 3)]), .assign (.var 9) (.call 3 [(.var 3)]), .ite (.cmp .mem (.var 2) (.var 9)) [.assign (.var 6) (.con (.bool true))] [], .assign (.var 8) (.bin .add (.var 8) (.comp 2 (Qx 13 1) (.var 13) (.var 9) []))] []]) (.tup [(.var 7), (.var 3)])
   [some pv, Dv lm, Dv (.tuple [.str (st 3), .str (nm x k), eTy t]), none, Dv (.list (here.map eVr)), some (.loc σ.length), Dv (.bool false), none, Dv (.list ((here.map nxOf).map eNx)), none, none, none] pv (σ ++ [.lst []]) =
  .next [some pv, Dv lm, Dv (.tuple [.str (st 3), .str (nm x k), eTy t]), s, Dv (.list (here.map eVr)), some (.loc σ.length), Dv (.bool (caughtBy ⟨x, k, t⟩ (innerOf ⟨x, k, t⟩ here ps))), w, some (.d (.list ((namesOf here (innerOf ⟨x, k, t⟩ here ps)).map eNx))), ar, none, none] (σ ++ [.lst ((innerOf ⟨x, k, t⟩ here ps).map ePr)]) := by
 have key := for_fold (body := exSs G (CF n) [.ite (.and [(.cmp .ne (.var 7) (.var 2)), (.cmp .mem (.var 7) (.var 4))]) [.app 5 (.tup [(.var 7), (.var 3)]), .assign (.var 9) (.call 3 [(.var 3)]), .ite (.cmp .mem (.var 2) (.var 9)) [.assign (.var 6) (.con (.bool true))] [], .assign (.var 8) (.bin .add (.var 8) (.comp 2 (Qx 13 1) (.var 13) (.var 9) []))] []]) (t := .tup [(.var 7), (.var 3)]) ePr
  (fun a : St => [some pv, Dv lm, Dv (.tuple [.str (st 3), .str (nm x k), eTy t]), a.s, Dv (.list (here.map eVr)), some (.loc σ.length), Dv (.bool a.cg), a.w, Dv (.list (a.nx.map eNx)), a.ar, none, none])
  (fun a : St => σ ++ [.lst (a.ps.map ePr)]) (stepP ⟨x, k, t⟩ here) (fun a r => a.ps.length + r.length ≤ 400 ∧ (∀ p ∈ r, p ∈ ps) ∧ a.nx.length + 100 * r.length ≤ 50000) (pv := pv) (items := ps) (a := ⟨[], false, here.map nxOf, none, none, none⟩) (by simpa using hi.more (.lst [])) ?_ ?_ ?_
 ·obtain ⟨f1, f2, f3⟩ := fold_stepP ⟨x, k, t⟩ here ps ⟨[], false, here.map nxOf, none, none, none⟩
  generalize ps.foldl (stepP ⟨x, k, t⟩ here) ⟨[], false, here.map nxOf, none, none, none⟩ = A at key f1 f2 f3
  refine ⟨A.w, A.s, A.ar, key.trans ?_⟩
  simp only [f1, f2, f3, List.nil_append, Bool.false_or, namesOf]
 ·intro k' all h1 h2 b r _
  subst h2
  have hk : k' < σ.length := by
   generalize hx : ps.map ePr = xs at hi
   cases hi with
   | loc h => exact (List.getElem?_eq_some_iff.mp h).1
  rw [List.getElem?_append_left hk] at h1 ⊢
  exact h1
 ·rintro a p r ⟨hP1, hP2, hP3⟩
  have hp := hps p (hP2 p List.mem_cons_self)
  obtain ⟨w, s⟩ := p
  dsimp only at hp
  refine ⟨[some pv, Dv lm, Dv (.tuple [.str (st 3), .str (nm x k), eTy t]), Dv (eTm s), Dv (.list (here.map eVr)), some (.loc σ.length), Dv (.bool a.cg), Dv (eVr w), Dv (.list (a.nx.map eNx)), a.ar, none, none], ?_, ?_⟩
  ·simp only [EV, ePr]
  ·have hfl := freeInto_len s [] []
   simp only [List.length_nil, Nat.zero_add] at hfl
   have hfl' : (freeV s).length ≤ 100 := Nat.le_trans hfl hp.2.2.1
   simp only [List.length_cons] at hP1 hP3
   have c1 := cmp_vrn w (x := x) (k := k) (t := t) (by lia)
   have c2 := mem_vr' w here (by have := hp.2.1; lia)
   unfold stepP
   cases hq : w.eq ⟨x, k, t⟩ with
   | true =>
    simp only [EV, c1, hq, Bool.false_and, Bool.false_eq_true, if_false]
    exact ⟨trivial, by lia, fun p hp => hP2 p (List.mem_cons_of_mem _ hp), by lia⟩
   | false =>
    cases hm : memv w here with
    | false =>
     simp only [EV, c1, c2, hq, hm, Bool.and_false, Bool.false_eq_true, if_false]
     exact ⟨trivial, by lia, fun p hp => hP2 p (List.mem_cons_of_mem _ hp), by lia⟩
    | true =>
     have hfree := call_free s n (σ ++ [.lst (a.ps.map ePr ++ [.tuple [eVr w, eTm s]])]) (by have := hp.1; lia) (by have := hp.1; lia) (by have := hp.2.2.1; exact Bd.wk this rfl)
     have c3 := mem_vr (x := x) (k := k) (t := t) (freeV s) (by lia)
     simp only [EV, c1, c2, hq, hm, Bool.and_true, if_true]
     rw [s_app _ rfl (get_last σ _)]
     simp only [EV, appK_is _ (get_last σ _) (show (a.ps.map ePr).length ≤ lim by simp [lim]; lia), set_last, hfree, c3]
     refine ⟨?_, by simp only [List.length_append, List.length_cons, List.length_nil]; lia, fun p hp => hP2 p (List.mem_cons_of_mem _ hp), by simp only [List.length_append, List.length_map]; exact Bd.cw hP3 hfl'⟩
     have hb : (a.nx.map eNx).length + (((freeV s).map nxOf).map eNx).length ≤ lim := by simp [lim]; exact Bd.cy hP3 hfl' rfl
     cases hc : memv ⟨x, k, t⟩ (freeV s) with
     | true =>
      simp only [EV, if_true]
      rw [names_comp n (.var 9) (freeV s) _ _ (by rfl) (by exact Bd.wk hfl' rfl) (by simp only [EV, k1_ok])]
      simp only [EV, bin_list hb, List.map_append, List.map_cons, List.map_nil, ePr]
     | false =>
      simp only [EV, Bool.false_eq_true, if_false]
      rw [names_comp n (.var 9) (freeV s) _ _ (by rfl) (by exact Bd.wk hfl' rfl) (by simp only [EV, k1_ok])]
      simp only [EV, bin_list hb, List.map_append, List.map_cons, List.map_nil, ePr]
 ·exact ⟨by simp; exact hlen, fun _ h => h, by simp; lia⟩
theorem empty_len (ps : List Pr) : ((((ps.map ePr).length : Nat) : Int) == 0) = ps.isEmpty := by
 cases ps with
 | nil => rfl
 | cons p r => simp; lia
theorem names_pk {here : List Vr} {inner : List Pr} {M : Nat} (h1 : ∀ v ∈ here, v.k ≤ M) (h2 : ∀ p ∈ inner, p.2.pk ≤ M) : ∀ n ∈ namesOf here inner, n.2 ≤ M := by
 intro n hn
 rcases List.mem_append.mp hn with q | q
 ·obtain ⟨v, hv, rfl⟩ := List.mem_map.mp q; exact h1 v hv
 ·obtain ⟨p, hp, hq⟩ := List.mem_flatMap.mp q
  obtain ⟨v, hv, rfl⟩ := List.mem_map.mp hq
  exact free_pk p.2 [] [] M (h2 p hp) (fun _ h => nomatch h) v hv
theorem call_put : ∀ (t : Tm) (D n : Nat) (σ : Store) (pv : V) (ps : List Pr) (M : Nat), Bd D ps t n M → Its σ pv (ps.map ePr) → CF n 6 [pv, .d (eTm t)] σ = .ok (.d (eTm (put t ps))) σ := by
 intro t
 induction t with
 | con x t =>
  intro D n σ pv ps M B hi
  have hlen := B.len; have hf := B.fuel
  obtain ⟨n, rfl⟩ := pos_of (n := n) (k := 0) (by exact Bd.lw hf rfl)
  show close σ.length (exSs G (CF n) b6 [some pv, Dv (eTm (.con x t)), none, none, none, none, none, none, none, none, none, none] σ) = _
  have hl := hi.len (by simp [lim]; lia)
  cases he : ps.isEmpty <;> simp only [EV, b6, Z63, Z64, Z65, Z66, hl, cmp_int, empty_len, he, Z33, Z34, Z35, Z36]
 | var x k t =>
  intro D n σ pv ps M B hi
  have hlen := B.len; have hf := B.fuel; have htd := B.td; have hD := B.hD
  simp only [Z114, Z115, Z116, Z117] at hlen hf htd
  obtain ⟨n, rfl⟩ := pos_of (n := n) (k := 0) (by exact Bd.lw hf rfl)
  show close σ.length (exSs G (CF n) b6 [some pv, Dv (eTm (.var x k t)), none, none, none, none, none, none, none, none, none, none] σ) = _
  have hl := hi.len (by simp [lim]; lia)
  cases he : ps.isEmpty with
  | true =>
   have : ps = [] := by simpa using he
   subst this
   simp only [EV, b6, Z63, Z64, Z65, Z66, hl, cmp_int, empty_len, he, Z33, Z34, Z35, Z36, Z93, Z94, Option.getD_none]
  | false =>
   simp only [EV, b6, Z63, Z64, Z65, Z66, hl, cmp_int, empty_len, he, s_fors]
   refine Exists.elim (for_find (body := exSs G (CF n) [.ite (.cmp .eq (.var 2) (.var 1)) [.ret (.var 3)] []]) (t := .tup [.var 2, .var 3]) (σ := σ) ePr (fun p => if p.1.eq ⟨x, k, t⟩ then some (eTm p.2) else none)
    (fun fr => ∃ a b, fr = [some pv, Dv (.tuple [.str (st 3), .str (nm x k), eTy t]), a, b, none, none, none, none, none, none, none, none]) hi ?_ (fr := [some pv, Dv (.tuple [.str (st 3), .str (nm x k), eTy t]), none, none, none, none, none, none, none, none, none, none]) ⟨none, none, rfl⟩) ?_
   ·rintro fr p ⟨a, b, rfl⟩
    have c1 := cmp_vr p.1 (x := x) (k := k) (t := t) (by lia)
    refine ⟨[some pv, Dv (.tuple [.str (st 3), .str (nm x k), eTy t]), Dv (eVr p.1), Dv (eTm p.2), none, none, none, none, none, none, none, none], ?_, ?_⟩
    ·simp only [EV, ePr]
    ·cases hq : p.1.eq ⟨x, k, t⟩ with
     | true => simp only [EV, if_true, c1, hq]
     | false =>
      simp only [Bool.false_eq_true, if_false]
      exact ⟨_, ⟨Dv (eVr p.1), Dv (eTm p.2), rfl⟩, by simp only [EV, c1, hq]⟩
   ·rintro fr' ⟨⟨a, b, hfr⟩, hk⟩
    rw [hk, find_lookP]
    simp only [Z33, Z34, Z35, Z36]
    cases lookP ⟨x, k, t⟩ ps with
    | some s => simp only [EV, Option.map_some, Option.getD_some]
    | none => simp only [EV, Option.map_none, hfr, Option.getD_none, Z63, Z64, Z65, Z66]
 | app f a ihf iha =>
  intro D n σ pv ps M B hi
  have hlen := B.len; have hf := B.fuel; have htd := B.td; have hD := B.hD; have hpk := B.pk; have hM := B.hM; have hsz := B.sz
  simp only [Z114, Z115, Z116, Z117, Z122, Z123, Z124, Z125, Z130, Z131, Z132, Z133] at hlen hf htd hpk hM hsz
  obtain ⟨n, rfl⟩ := pos_of (n := n) (k := 0) (by exact Bd.lw hf rfl)
  show close σ.length (exSs G (CF n) b6 [some pv, Dv (eTm (.app f a)), none, none, none, none, none, none, none, none, none, none] σ) = _
  have hl := hi.len (by simp [lim]; lia)
  cases he : ps.isEmpty with
  | true => simp only [EV, b6, Z63, Z64, Z65, Z66, hl, cmp_int, empty_len, he, Z33, Z34, Z35, Z36, if_true]
  | false =>
   have h1 := ihf D n σ pv ps M ⟨by exact Bd.m1 htd, hD, by exact Bd.g1 hf, by lia, B.pd, by exact Bd.s1 hlen, by exact Bd.l1 hpk, by exact Bd.s1 hM⟩ hi
   have h2 := iha D n σ pv ps M ⟨by exact Bd.m2 htd, hD, by exact Bd.g2 hf, by lia, B.pd, by exact Bd.s2 hlen, by exact Bd.l2 hpk, by exact Bd.s2 hM⟩ hi
   simp only [EV, b6, Z63, Z64, Z65, Z66, hl, cmp_int, empty_len, he, h1, h2, Z33, Z34, Z35, Z36, Bool.false_eq_true, if_false]
 | lam x k t b ih =>
  intro D n σ pv ps M B hi
  have hlen := B.len; have hf := B.fuel; have htd := B.td; have hD := B.hD; have hpk := B.pk; have hM := B.hM; have hsz := B.sz
  simp only [Z114, Z115, Z116, Z117, Z122, Z123, Z124, Z125, Z130, Z131, Z132, Z133] at hlen hf htd hpk hM hsz
  obtain ⟨n, rfl⟩ := pos_of (n := n) (k := 0) (by exact Bd.lw hf rfl)
  show close σ.length (exSs G (CF n) b6 [some pv, Dv (eTm (.lam x k t b)), none, none, none, none, none, none, none, none, none, none] σ) = _
  have hl := hi.len (by simp [lim]; lia)
  cases he : ps.isEmpty with
  | true => simp only [EV, b6, Z63, Z64, Z65, Z66, hl, cmp_int, empty_len, he, Z33, Z34, Z35, Z36, if_true]
  | false =>
   have hfree := call_free b n σ (by exact Bd.bg hf) (by exact Bd.ib hM rfl) (by exact Bd.wk hsz rfl)
   have hfl := freeInto_len b [] []
   simp only [List.length_nil, Nat.zero_add] at hfl
   have hfl' : (freeV b).length ≤ 1000 := Nat.le_trans hfl hsz
   simp only [EV, b6, Z63, Z64, Z65, Z66, hl, cmp_int, empty_len, he, hfree, s_newl, kts_ok]
   rw [newlK_is 5 _ [] [] σ (by simp) rfl]
   simp only [EV, k1_ok]
   rw [names_comp n (.var 4) (freeV b) _ _ (by rfl) (by exact Bd.wk hfl' rfl) (by simp only [EV, k1_ok])]
   simp only [EV, s_fors]
   obtain ⟨w, s, ar, hloop⟩ := put_loop n pv (.tuple [.str (st 6), .tuple [.str (st 3), .str (nm x k), eTy t], eTm b]) x k t (freeV b) ps σ D M (by exact Bd.m1 htd) hD (by lia) B.pd (by lia) hfl' hi
   rw [hloop]
   simp only [EV, Z33, Z34, Z35, Z36, he, Bool.false_eq_true, if_false]
   have hilen := inner_len ⟨x, k, t⟩ (freeV b) ps
   have hipd : ∀ p ∈ innerOf ⟨x, k, t⟩ (freeV b) ps, p.2.dp ≤ D ∧ p.1.t.dp ≤ D ∧ p.2.sz ≤ 100 ∧ p.2.pk ≤ M := fun p hp => B.pd p (inner_sub hp)
   generalize innerOf ⟨x, k, t⟩ (freeV b) ps = inner at hloop hilen hipd ⊢
   cases hc : caughtBy ⟨x, k, t⟩ inner with
   | false =>
    have h3 := ih D n (σ ++ [.lst (inner.map ePr)]) (.loc σ.length) inner M ⟨by exact Bd.m2 htd, hD, by exact Bd.g2 hf, by exact hsz, hipd, by exact Bd.im hilen hlen, by exact Bd.l2 hpk, by exact Bd.s2 hM⟩ (.loc (get_last σ _))
    simp only [EV, h3, take_last, Bool.false_eq_true, if_false, Z63, Z64, Z65, Z66]
   | true =>
    have hnm := names_pk (here := freeV b) (inner := inner) (M := M) (free_pk b [] [] M (by exact Bd.l2 hpk) fun _ h => nomatch h) fun p hp => (hipd p hp).2.2.2
    have hfr : ∃ j, j < 900 ∧ memn x (k + j) (namesOf (freeV b) inner) = false := ⟨M + 1 - k, by exact Bd.ms hM, memn_big hnm (by lia)⟩
    have hfk := freshK_le (namesOf (freeV b) inner) x M hnm 900 k (by exact Bd.n1 hpk)
    simp only [EV, if_true, s_whil, whilK]
    rw [fresh_loop n x (namesOf (freeV b) inner) _ _ _ _ _ _ _ _ _ _ _ 900 1000 k hfr (by decide) (by exact Bd.kk hpk hM)]
    generalize freshK (namesOf (freeV b) inner) x 900 k = k' at hfk ⊢
    simp only [EV, k1_ok]
    rw [s_app _ rfl (get_last σ _)]
    simp only [EV, appK_is _ (get_last σ _) (show (inner.map ePr).length ≤ lim by simp [lim]; lia), set_last]
    have e : inner.map ePr ++ [.tuple [.tuple [.str (st 3), .str (nm x k), eTy t], .tuple [.str (st 3), .str (nm x k'), eTy t]]] = (inner ++ [((⟨x, k, t⟩ : Vr), Tm.var x k' t)]).map ePr := by simp [ePr, eVr, Z63, Z64, Z65, Z66]
    rw [e]
    have h3 := ih D n (σ ++ [.lst ((inner ++ [((⟨x, k, t⟩ : Vr), Tm.var x k' t)]).map ePr)]) (.loc σ.length) (inner ++ [((⟨x, k, t⟩ : Vr), Tm.var x k' t)]) (M + 1) ⟨by exact Bd.m2 htd, hD, by exact Bd.g2 hf, by exact hsz, ?_, by simp; exact Bd.il hilen hlen, by exact Bd.n2 hpk, by exact Bd.s3 hM⟩ (.loc (get_last σ _))
    ·simp only [EV, h3, take_last, Z63, Z64, Z65, Z66]
    ·intro p hp
     rcases List.mem_append.mp hp with q | q
     ·have := hipd p q; exact ⟨this.1, this.2.1, this.2.2.1, by lia⟩
     ·simp at q; subst q
      simp only [Z114, Z115, Z116, Z117, Z130, Z131, Z132, Z133, Z122, Z123, Z124, Z125]; exact ⟨by exact Bd.m1 htd, by exact Bd.m1 htd, by lia, by exact hfk⟩
section
variable {body : Frame → Store → XR} {t : Tg} {σ : Store}
theorem check_items {β : Type} (enc : β → PyData) (q : β → Bool) (Fp : Frame → Prop) : ∀ (items : List β) (fr : Frame), (∀ fr x, x ∈ items → Fp fr → ∃ fr1, asg σ t (.d (enc x)) fr = some fr1 ∧ (if q x then ∃ fr2, Fp fr2 ∧ body fr1 σ = .next fr2 σ else body fr1 σ = .err σ)) → Fp fr →
  ∃ fr', Fp fr' ∧ forItems body t (items.map enc) fr σ = if items.all q then .next fr' σ else .err σ
 | [], fr, _, h => ⟨fr, h, rfl⟩
 | x :: xs, fr, hstep, h => by
  obtain ⟨fr1, h1, h2⟩ := hstep fr x List.mem_cons_self h
  rw [List.map_cons, fi_cons, h1, forS_some, List.all_cons]
  cases hp : q x with
  | false => rw [hp] at h2; simp only [Bool.false_eq_true, if_false] at h2; rw [h2]; exact ⟨fr, h, rfl⟩
  | true =>
   rw [hp] at h2
   simp only [if_true] at h2
   obtain ⟨fr2, h3, h4⟩ := h2
   obtain ⟨fr', h5, h6⟩ := check_items enc q Fp xs fr2 (fun fr x hx => hstep fr x (List.mem_cons_of_mem _ hx)) h3
   exact ⟨fr', h5, by rw [h4, an_next]; simpa using h6⟩
theorem for_check {β : Type} (enc : β → PyData) (q : β → Bool) (Fp : Frame → Prop) {d : PyData} {items : List β} (hd : itemsOf d = some (items.map enc)) {fr : Frame} (hfr : Fp fr)
  (hstep : ∀ fr x, x ∈ items → Fp fr → ∃ fr1, asg σ t (.d (enc x)) fr = some fr1 ∧ (if q x then ∃ fr2, Fp fr2 ∧ body fr1 σ = .next fr2 σ else body fr1 σ = .err σ)) :
  ∃ fr', Fp fr' ∧ forK body t fr (.d d) σ = if items.all q then .next fr' σ else .err σ := by
 have : forK body t fr (.d d) σ = forItems body t (items.map enc) fr σ := by unfold forK; dsimp only; rw [hd]; rfl
 rw [this]
 exact check_items enc q Fp items fr hstep hfr
end
noncomputable def fitsP (p : Pr) : Bool := match typeOf p.2 with | some ty => ty.eq p.1.t | none => false
noncomputable def putIn (ps : List Pr) (t : Tm) : Option Tm := if ps.all fitsP then some (put t ps) else none
noncomputable def ofTm (σ : Store) : Option Tm → Res V
 | some t => .ok (.d (eTm t)) σ
 | none => .err σ
theorem toLst_is {d : PyData} {xs : List PyData} (h : itemsOf d = some xs) (hl : xs.length ≤ lim) : toLstOp d = some (.list xs) := by
 unfold toLstOp; rw [h]; simp [hl]
theorem toTup_is {d : PyData} {xs : List PyData} (h : itemsOf d = some xs) (hl : xs.length ≤ lim) : toTupOp d = some (.tuple xs) := by
 unfold toTupOp; rw [h]; simp [hl]
theorem call_put_in (D n : Nat) (σ : Store) (ps : List Pr) (t : Tm) (M : Nat) (B : Bd D ps t n M) (hn : t.dp + D + 8 ≤ n) (d : PyData) (hd : itemsOf d = some (ps.map ePr)) : CF n 7 [.d d, .d (eTm t)] σ = ofTm σ (putIn ps t) := by
 have hlen := B.len; have hD := B.hD
 obtain ⟨n, rfl⟩ := pos_of (n := n) (k := 0) (by exact Bd.lw hn rfl)
 show close σ.length (exSs G (CF n) b7 [Dv d, Dv (eTm t), none, none] σ) = _
 simp only [EV, b7, s_fors]
 refine Exists.elim (for_check (body := exSs G (CF n) [.ite (.cmp .ne (.call 1 [(.var 3)]) (Qx 2 2)) [.raise] []]) (t := .tup [.var 2, .var 3]) (σ := σ) ePr fitsP
  (fun fr => ∃ a b, fr = [Dv d, Dv (eTm t), a, b]) hd (fr := [Dv d, Dv (eTm t), none, none]) ⟨none, none, rfl⟩ ?_) ?_
 ·rintro fr p hp ⟨a, b, rfl⟩
  have hb := B.pd p hp
  refine ⟨[Dv d, Dv (eTm t), Dv (eVr p.1), Dv (eTm p.2)], by simp only [EV, ePr], ?_⟩
  have h1 := call_type_of p.2 n σ (by have := hb.1; lia) (by have := hb.1; lia)
  cases hty : typeOf p.2 with
  | none =>
   have hf : fitsP p = false := by unfold fitsP; rw [hty]
   simp only [EV, h1, hty, hf, ofTy, Bool.false_eq_true, if_false]
  | some ty =>
   have hf : fitsP p = ty.eq p.1.t := by unfold fitsP; rw [hty]
   have hdp := typeOf_dp hty
   have hc : cmpD .ne (eTy ty) (eTy p.1.t) = some (.bool (!(ty.eq p.1.t))) := cmpD_is _ _ _ (cmp_ty_ne (by have := hb.1; lia))
   have hi : idxOp (eVr p.1) (.int 2) = some (eTy p.1.t) := rfl
   cases hq : ty.eq p.1.t with
   | true =>
    rw [hf, hq, if_pos rfl]
    exact ⟨_, ⟨Dv (eVr p.1), Dv (eTm p.2), rfl⟩, by simp only [EV, h1, hty, ofTy, hi, hc, hq]⟩
   | false => simp only [EV, h1, hty, hf, ofTy, hi, hc, hq, Bool.false_eq_true, if_false]
 ·rintro fr' ⟨⟨a, b, rfl⟩, hk⟩
  rw [hk]
  unfold putIn
  cases ps.all fitsP with
  | false => simp only [EV, Bool.false_eq_true, if_false, ofTm]
  | true =>
   have h2 := call_put t D n σ (.d (.list (ps.map ePr))) ps M ⟨B.td, B.hD, by exact Bd.sb hn rfl, B.sz, B.pd, B.len, B.pk, B.hM⟩ (.list _)
   simp only [EV, if_true, toLst_is hd (show (ps.map ePr).length ≤ lim by simp [lim]; lia), h2, ofTm]
noncomputable def eqT (s : Ty) (a b : Tm) : Tm := .app (.app (.con .eq (.fn s (.fn s .bool))) a) b
theorem call_eq (n : Nat) (σ : Store) (a b : Tm) (hn : a.dp + 3 ≤ n) (hd : a.dp ≤ 800) : CF n 8 [.d (eTm a), .d (eTm b)] σ = ofTm σ ((typeOf a).map fun s => eqT s a b) := by
 obtain ⟨n, rfl⟩ := pos_of hn
 obtain ⟨n, rfl⟩ := pos_of (n := n) (k := 0) (by exact Bd.fn hn rfl)
 show close σ.length (exSs G (CF (n + 1)) b8 [Dv (eTm a), Dv (eTm b), none] σ) = _
 have h1 := call_type_of a (n + 1) σ (by exact Bd.sb hn rfl) hd
 cases hty : typeOf a with
 | none => simp only [EV, b8, h1, hty, ofTy, Option.map_none, ofTm]
 | some ty => simp only [EV, b8, h1, hty, ofTy, Option.map_some, ofTm, G0, call_fnT, eqT, Z63, Z64, Z65, Z66, Cn.i]
noncomputable def sides : Tm → Option (Tm × Tm)
 | .app (.app (.con x _) a) b => if x.same .eq then some (a, b) else none
 | _ => none
theorem idx_tm0 (t : Tm) : idxOp (eTm t) (.int 0) = some (.str (st (match t with | .var .. => 3 | .con .. => 4 | .app .. => 7 | .lam .. => 6))) := by cases t <;> rfl
theorem call_is_eqn (n : Nat) (σ : Store) (t : Tm) : CF (n + 1) 9 [.d (eTm t)] σ = .ok (.d (.bool (sides t).isSome)) σ := by
 show close σ.length (exSs G (CF n) b9 [Dv (eTm t)] σ) = _
 cases t with
 | var x k t => simp only [EV, b9, Z63, Z64, Z65, Z66, sides, Option.isSome_none]
 | con x t => simp only [EV, b9, Z63, Z64, Z65, Z66, sides, Option.isSome_none]
 | lam x k t b => simp only [EV, b9, Z63, Z64, Z65, Z66, sides, Option.isSome_none]
 | app f b =>
  cases f with
  | var x k t => simp only [EV, b9, Z63, Z64, Z65, Z66, sides, Option.isSome_none]
  | con x t => simp only [EV, b9, Z63, Z64, Z65, Z66, sides, Option.isSome_none]
  | lam x k t b => simp only [EV, b9, Z63, Z64, Z65, Z66, sides, Option.isSome_none]
  | app g a =>
   cases g with
   | var x k t => simp only [EV, b9, Z63, Z64, Z65, Z66, sides, Option.isSome_none]
   | lam x k t b => simp only [EV, b9, Z63, Z64, Z65, Z66, sides, Option.isSome_none]
   | app g a => simp only [EV, b9, Z63, Z64, Z65, Z66, sides, Option.isSome_none]
   | con x t =>
    simp only [EV, b9, Z63, Z64, Z65, Z66, sides, cn_st]
    cases x.same .eq <;> simp only [EV, if_true, Bool.false_eq_true, if_false, Option.isSome_some, Option.isSome_none]
theorem call_sides (n : Nat) (σ : Store) (t : Tm) : CF (n + 2) 10 [.d (eTm t)] σ = match sides t with | some (a, b) => .ok (.d (.tuple [eTm a, eTm b])) σ | none => .err σ := by
 show close σ.length (exSs G (CF (n + 1)) b10 [Dv (eTm t)] σ) = _
 have h1 := call_is_eqn n σ t
 cases hs : sides t with
 | none => simp only [EV, b10, h1, hs, Option.isSome_none]
 | some ab =>
  have : ∃ x ty, t = .app (.app (.con x ty) ab.1) ab.2 := by
   unfold sides at hs
   split at hs
   ·split at hs <;> simp at hs
    subst hs; exact ⟨_, _, rfl⟩
   ·cases hs
  obtain ⟨x, ty, rfl⟩ := this
  simp only [EV, b10, h1, hs, Option.isSome_some]
  simp only [EV, Z63, Z64, Z65, Z66]
noncomputable def among (p : Tm) (row : List Tm) : Bool := row.any (alike p)
structure Sm (n : Nat) (t : Tm) : Prop where
 fuel : t.dp + 5 ≤ n
 dp : t.dp ≤ 300
theorem find_among (p : Tm) : ∀ row : List Tm, row.findSome? (fun q => if alike p q then some (PyData.bool true) else none) = if among p row then some (.bool true) else none
 | [] => rfl
 | q :: r => by
  rw [List.findSome?_cons, among, List.any_cons]
  cases h : alike p q with
  | true => simp
  | false => simp only [Bool.false_eq_true, if_false, Bool.false_or]; exact find_among p r
theorem call_among (n : Nat) (σ : Store) (p : Tm) (row : List Tm) (pv : V) (hi : Its σ pv (row.map eTm)) (hp : Sm n p) (hr : ∀ q ∈ row, Sm n q) : CF n 11 [.d (eTm p), pv] σ = .ok (.d (.bool (among p row))) σ := by
 have hpf := hp.fuel; have hpd := hp.dp
 obtain ⟨n, rfl⟩ := pos_of (n := n) (k := 0) (by exact Bd.lw hpf rfl)
 show close σ.length (exSs G (CF n) b11 [Dv (eTm p), some pv, none] σ) = _
 simp only [EV, b11, s_fors]
 -- the row, as terms that are small
 have hat : row.attach.map (fun q => eTm q.1) = row.map eTm := by rw [List.attach_map_val (f := eTm)]
 refine Exists.elim (for_find (body := exSs G (CF n) [.ite (.call 5 [(.var 0), (.var 2)]) [.ret (.con (.bool true))] []]) (t := .var 2) (σ := σ) (fun q : { x // x ∈ row } => eTm q.1) (fun q => if alike p q.1 then some (PyData.bool true) else none)
  (fun fr => ∃ a, fr = [Dv (eTm p), some pv, a]) (items := row.attach) (by rw [hat]; exact hi) ?_ (fr := [Dv (eTm p), some pv, none]) ⟨none, rfl⟩) ?_
 ·rintro fr ⟨q, hq⟩ ⟨a, rfl⟩
  have hqs := hr q hq
  have h1 := call_alike p q n σ (by exact Bd.sb hpf rfl) (by have := hqs.fuel; exact Bd.sb this rfl) (by exact Bd.wk hpd rfl) (by have := hqs.dp; exact Bd.wk this rfl)
  refine ⟨[Dv (eTm p), some pv, Dv (eTm q)], by simp only [EV, k1_ok], ?_⟩
  dsimp only
  cases ha : alike p q with
  | true => simp only [EV, if_true, h1, ha]
  | false =>
   simp only [Bool.false_eq_true, if_false]
   exact ⟨_, ⟨Dv (eTm q), rfl⟩, by simp only [EV, h1, ha]⟩
 ·rintro fr' ⟨⟨a, rfl⟩, hk⟩
  have hfs : row.attach.findSome? (fun q => if alike p q.1 then some (PyData.bool true) else none) = if among p row then some (.bool true) else none := by
   have h := List.findSome?_map (f := (Subtype.val : { x // x ∈ row } → Tm)) (p := fun q => if alike p q then some (PyData.bool true) else none) (l := row.attach)
   rw [List.attach_map_subtype_val] at h
   rw [← find_among]
   exact h.symm
  rw [hk, hfs]
  cases among p row <;> simp only [EV, if_true, Bool.false_eq_true, if_false]
noncomputable def joinL (a b : List Tm) : List Tm := b.foldl (fun o p => if among p o then o else o ++ [p]) a
noncomputable def newOfK (i : Nat) (fr : Frame) (v : V) (σ : Store) : XR := (Res.of σ (deref σ v)).then fun x σ => (Res.of σ (itemsOf x)).then fun ds σ =>
   if i < fr.length ∧ ds.length ≤ lim then .next (fr.set i (some (.loc σ.length))) (σ ++ [.lst ds]) else .stuck
theorem s_newOf {G : List PyData} {C : CallT} {fr : Frame} {σ : Store} (i : Nat) (a : E) : exS G C (.newOf i a) fr σ = kt (newOfK i fr) (evE G C a fr σ) := by rw [exx_newOf]; rfl
theorem newOfK_is {i : Nat} {fr : Frame} {d : PyData} {ds : List PyData} {σ : Store} (hd : itemsOf d = some ds) (hi : i < fr.length) (hl : ds.length ≤ lim) : newOfK i fr (.d d) σ = .next (fr.set i (some (.loc σ.length))) (σ ++ [.lst ds]) := by
 unfold newOfK; simp only [deref, Res.of_some, Res.then_ok, hd, hi, hl, and_self, if_true]
theorem call_join (n : Nat) (σ : Store) (as bs : List Tm) (da db : PyData) (ha : itemsOf da = some (as.map eTm)) (hb : itemsOf db = some (bs.map eTm)) (hsa : ∀ q ∈ as, Sm n q) (hsb : ∀ q ∈ bs, Sm n q) (hla : as.length + bs.length ≤ 1000) (hn : 1 ≤ n) :
  CF (n + 1) 12 [.d da, .d db] σ = .ok (.d (.tuple ((joinL as bs).map eTm))) σ := by
 show close σ.length (exSs G (CF n) b12 [Dv da, Dv db, none, none] σ) = _
 simp only [EV, b12, s_newOf]
 rw [newOfK_is ha (by simp) (by simp [lim]; lia)]
 simp only [EV, s_fors]
 have hfold := for_fold (body := exSs G (CF n) [.ite (.not (.call 11 [(.var 3), (.var 2)])) [.app 2 (.var 3)] []]) (t := .var 3) eTm
  (fun a : List Tm × Option V => [Dv da, Dv db, some (.loc σ.length), a.2]) (fun a => σ ++ [.lst (a.1.map eTm)]) (fun a p => (if among p a.1 then a.1 else a.1 ++ [p], Dv (eTm p)))
  (fun a r => (∀ q ∈ a.1, Sm n q) ∧ (∀ q ∈ r, Sm n q) ∧ a.1.length + r.length ≤ 1000) (pv := .d db) (items := bs) (a := (as, none)) ?_ ?_ ?_ ?_
 ·rw [hfold]
  have key : ∀ (bs : List Tm) (a : List Tm × Option V), (bs.foldl (fun (a : List Tm × Option V) p => (if among p a.1 then a.1 else a.1 ++ [p], some (V.d (eTm p)))) a).1 = joinL a.1 bs := by
   intro bs
   induction bs with
   | nil => intro a; rfl
   | cons b bs ih => intro a; rw [List.foldl_cons, ih]; rfl
  have hlen : ∀ (bs a : List Tm), (joinL a bs).length ≤ a.length + bs.length := by
   intro bs
   induction bs with
   | nil => intro a; simp [joinL]
   | cons b bs ih =>
    intro a
    have := ih (if among b a then a else a ++ [b])
    unfold joinL at this ⊢
    rw [List.foldl_cons]
    refine Nat.le_trans this ?_
    split <;> simp <;> lia
  have hl := hlen bs as
  have h1 := key bs (as, none)
  simp only [EV, ou_l _ (get_last σ _), h1]
  rw [toTup_is (d := .list ((joinL as bs).map eTm)) rfl (by simp [lim]; lia)]
  simp only [EV, take_last]
 ·show Its _ _ (bs.map eTm)
  cases db <;> simp only [itemsOf, reduceCtorEq] at hb <;> cases hb
  ·exact .list _
  ·exact .tuple _
 ·intro k all _ h; cases h
 ·rintro ⟨o, w⟩ p r ⟨h1, h2, h3⟩
  dsimp only at h1 h3
  simp only [List.length_cons] at h3
  refine ⟨[Dv da, Dv db, some (.loc σ.length), Dv (eTm p)], by simp only [EV, k1_ok], ?_, ?_⟩
  ·have hc := call_among n (σ ++ [.lst (o.map eTm)]) p o (.loc σ.length) (.loc (get_last σ _)) (h2 p List.mem_cons_self) h1
   cases hq : among p o with
   | true => simp only [EV, hc, hq, if_true]
   | false =>
    simp only [EV, hc, hq, Bool.false_eq_true, if_false]
    rw [s_app _ rfl (get_last σ _)]
    simp only [EV, appK_is _ (get_last σ _) (show (o.map eTm).length ≤ lim by simp [lim]; lia), set_last, List.map_append, List.map_cons, List.map_nil]
  ·refine ⟨fun q hq => ?_, fun q hq => h2 q (List.mem_cons_of_mem _ hq), ?_⟩
   ·dsimp only at hq
    split at hq
    ·exact h1 q hq
    ·rcases List.mem_append.mp hq with z | z
     ·exact h1 q z
     ·simp at z; subst z; exact h2 q List.mem_cons_self
   ·dsimp only
    split
    ·lia
    ·simp only [List.length_append, List.length_cons, List.length_nil]; lia
 ·exact ⟨hsa, hsb, hla⟩
noncomputable def withoutL (a : List Tm) (p : Tm) : List Tm := a.filter fun q => !(alike p q)
theorem call_without (n : Nat) (σ : Store) (as : List Tm) (p : Tm) (da : PyData) (ha : itemsOf da = some (as.map eTm)) (hsa : ∀ q ∈ as, Sm n q) (hp : Sm n p) (hl : as.length ≤ 1000) : CF (n + 1) 13 [.d da, .d (eTm p)] σ = .ok (.d (.tuple ((withoutL as p).map eTm))) σ := by
 show close σ.length (exSs G (CF n) b13 [Dv da, Dv (eTm p)] σ) = _
 have hf : as.filterMap (fun q => if !(alike p q) then some (eTm q) else none) = (withoutL as p).map eTm := by
  unfold withoutL
  clear ha hsa hl
  induction as with
  | nil => rfl
  | cons a as ih => rw [List.filterMap_cons, List.filter_cons, ih]; cases alike p a <;> simp
 simp only [EV, b13, e_comp]
 rw [compK_is (n := 4) eTm (fun q => if !(alike p q) then some (eTm q) else none) (items := as) ha (by simp only [lim]; exact Bd.wk hl rfl)]
 ·rw [hf]
  have : (withoutL as p).length ≤ as.length := List.length_filter_le ..
  simp only [EV, toTup_is (d := .list ((withoutL as p).map eTm)) rfl (show ((withoutL as p).map eTm).length ≤ lim by simp [lim]; lia)]
 ·intro q hq
  have hs := hsa q hq
  have hc := call_alike p q n σ (by have := hp.fuel; lia) (by have := hs.fuel; lia) (by have := hp.dp; exact Bd.wk this rfl) (by have := hs.dp; exact Bd.wk this rfl)
  cases hb : alike p q with
  | true => simp only [EV, List.replicate, List.cons_append, List.nil_append, hc, hb, asBool, Bool.false_eq_true, if_false]
  | false => simp only [EV, List.replicate, List.cons_append, List.nil_append, hc, hb, asBool, if_true]
noncomputable def varsInto : Tm → List Vr → List Vr
 | .var x k t, o => if memv ⟨x, k, t⟩ o then o else o ++ [⟨x, k, t⟩]
 | .con _ _, o => o
 | .app f a, o => varsInto a (varsInto f o)
 | .lam x k t b, o => varsInto b (if memv ⟨x, k, t⟩ o then o else o ++ [⟨x, k, t⟩])
theorem Z69 : varsInto (.var x k t) o = (if memv ⟨x, k, t⟩ o then o else o ++ [⟨x, k, t⟩]) := rfl
theorem Z70 : varsInto (.con u1 u2) o = (o) := rfl
theorem Z71 : varsInto (.app f a) o = (varsInto a (varsInto f o)) := rfl
theorem Z72 : varsInto (.lam x k t b) o = (varsInto b (if memv ⟨x, k, t⟩ o then o else o ++ [⟨x, k, t⟩])) := rfl
noncomputable def Tm.vs : Tm → Nat
 | .var _ _ _ => 1
 | .con _ _ => 0
 | .app f a => f.vs + a.vs
 | .lam _ _ _ b => b.vs + 1
theorem Z126 : Tm.vs (.var u1 u2 u3) = (1) := rfl
theorem Z127 : Tm.vs (.con u1 u2) = (0) := rfl
theorem Z128 : Tm.vs (.app f a) = (f.vs + a.vs) := rfl
theorem Z129 : Tm.vs (.lam u1 u2 u3 b) = (b.vs + 1) := rfl
theorem varsInto_len : ∀ (t : Tm) (o : List Vr), (varsInto t o).length ≤ o.length + t.vs := by
 intro t
 induction t with
 | var x k t => intro o; (first | rw [Z69] | rw [Z70] | rw [Z71] | rw [Z72]); split <;> simp [Z126, Z127, Z128, Z129]
 | con x t => intro o; simp [Z69, Z70, Z71, Z72, Z126, Z127, Z128, Z129]
 | app f a ihf iha => intro o; have := ihf o; have := iha (varsInto f o); simp only [Z69, Z70, Z71, Z72, Z126, Z127, Z128, Z129]; with_reducible exact Bd.tr ‹_› this
 | lam x k t b ih =>
  intro o
  have := ih (if memv ⟨x, k, t⟩ o then o else o ++ [⟨x, k, t⟩])
  simp only [Z69, Z70, Z71, Z72, Z126, Z127, Z128, Z129]
  refine Nat.le_trans this ?_
  split <;> simp <;> lia
theorem call_vars_into : ∀ (t : Tm) (n : Nat) (σ : Store) (k : Nat) (o : List Vr), t.dp + 2 ≤ n → t.dp ≤ 800 → σ[k]? = some (.lst (o.map eVr)) → o.length + t.vs ≤ 100000 →
  CF n 14 [.d (eTm t), .loc k] σ = .ok (.d .none) (σ.set k (.lst ((varsInto t o).map eVr))) := by
 intro t
 induction t with
 | var x k t =>
  intro n σ j o hn hd hσ ho
  obtain ⟨n, rfl⟩ := pos_of hn
  simp only [Z114, Z115, Z116, Z117, Z126, Z127, Z128, Z129] at hd ho
  show close σ.length (exSs G (CF n) b14 [Dv (eTm (.var x k t)), some (.loc j)] σ) = _
  simp only [EV, b14, Z63, Z64, Z65, Z66, oq_dl _ _ hσ, nmem_vr o (show t.dp ≤ 900 by exact Bd.wk hd rfl)]
  cases hm : memv ⟨x, k, t⟩ o with
  | true => simp only [EV, Z69, Z70, Z71, Z72, hm, if_true, set_self hσ]
  | false =>
   simp only [EV, k1_ok]
   rw [s_app _ rfl hσ]
   simp only [EV, appK_is _ hσ (show (o.map eVr).length ≤ lim by simp [lim]; lia), set_take, Z69, Z70, Z71, Z72, hm, Bool.false_eq_true, if_false, List.map_append, List.map_cons, List.map_nil, eVr]
 | con x t =>
  intro n σ j o hn hd hσ ho
  obtain ⟨n, rfl⟩ := pos_of hn
  show close σ.length (exSs G (CF n) b14 [Dv (eTm (.con x t)), some (.loc j)] σ) = _
  simp only [EV, b14, Z63, Z64, Z65, Z66, Z69, Z70, Z71, Z72, set_self hσ]
 | app f a ihf iha =>
  intro n σ j o hn hd hσ ho
  simp only [Z114, Z115, Z116, Z117, Z126, Z127, Z128, Z129] at hn hd ho
  obtain ⟨n, rfl⟩ := pos_of hn
  have hfl := varsInto_len f o
  show close σ.length (exSs G (CF n) b14 [Dv (eTm (.app f a)), some (.loc j)] σ) = _
  simp only [EV, b14, Z63, Z64, Z65, Z66]
  rw [ihf n σ j o (by exact Bd.f1 hn) (by exact Bd.m1 hd) hσ (by lia)]
  simp only [EV, k1_ok]
  rw [iha n _ j (varsInto f o) (by exact Bd.f2 hn) (by exact Bd.m2 hd) (set_get hσ) (by exact Bd.ov ho hfl)]
  simp only [EV, List.set_set, set_take, Z69, Z70, Z71, Z72]
 | lam x k t b ih =>
  intro n σ j o hn hd hσ ho
  simp only [Z114, Z115, Z116, Z117, Z126, Z127, Z128, Z129] at hn hd ho
  obtain ⟨n, rfl⟩ := pos_of hn
  show close σ.length (exSs G (CF n) b14 [Dv (eTm (.lam x k t b)), some (.loc j)] σ) = _
  simp only [EV, b14, Z63, Z64, Z65, Z66, oq_dl _ _ hσ, nmem_vr o (show t.dp ≤ 900 by exact Bd.w1 hd rfl)]
  cases hm : memv ⟨x, k, t⟩ o with
  | true =>
   simp only [EV, k1_ok]
   rw [ih n σ j o (by exact Bd.f2 hn) (by exact Bd.m2 hd) hσ (by lia)]
   simp only [EV, set_take, Z69, Z70, Z71, Z72, hm, if_true]
  | false =>
   simp only [EV, k1_ok]
   rw [s_app _ rfl hσ]
   simp only [EV, appK_is _ hσ (show (o.map eVr).length ≤ lim by simp [lim]; lia)]
   have e : o.map eVr ++ [PyData.tuple [PyData.str (st 3), PyData.str (nm x k), eTy t]] = (o ++ [(⟨x, k, t⟩ : Vr)]).map eVr := by simp [eVr]
   rw [e, ih n _ j (o ++ [(⟨x, k, t⟩ : Vr)]) (by exact Bd.f2 hn) (by exact Bd.m2 hd) (set_get hσ) (by simp; lia)]
   simp only [EV, List.set_set, set_take, Z69, Z70, Z71, Z72, hm, Bool.false_eq_true, if_false]
noncomputable abbrev Tp := Tn × Ty
noncomputable def eTp (p : Tp) : PyData := .tuple [.str (st p.1.i), eTy p.2]
noncomputable def lookT (n : Tn) : List Tp → Option Ty
 | [] => none
 | (m, s) :: r => if m.same n then some s else lookT n r
theorem Z85 : lookT n ([]) = (none) := rfl
theorem Z86 : lookT n ((m, s) :: r) = (if m.same n then some s else lookT n r) := rfl
noncomputable def tyPut (ps : List Tp) : Ty → Ty
 | .any n => (lookT n ps).getD (.any n)
 | .fn a b => .fn (tyPut ps a) (tyPut ps b)
 | .bool => .bool
 | .ind => .ind
theorem Z161 : tyPut ps (.any n) = ((lookT n ps).getD (.any n)) := rfl
theorem Z162 : tyPut ps (.fn a b) = (.fn (tyPut ps a) (tyPut ps b)) := rfl
theorem Z163 : tyPut ps (.bool) = (.bool) := rfl
theorem Z164 : tyPut ps (.ind) = (.ind) := rfl
theorem find_lookT (n : Tn) : ∀ ps : List Tp, ps.findSome? (fun p => if p.1.same n then some (eTy p.2) else none) = (lookT n ps).map eTy
 | [] => rfl
 | (w, s) :: r => by
  (rewrite [List.findSome?_cons]; (first | rw [Z85] | rw [Z86]))
  cases h : w.same n with
  | true => simp [h]
  | false => simp [h]; exact find_lookT n r
theorem call_type_put (ps : List Tp) : ∀ (s : Ty) (n : Nat) (σ : Store), s.dp + 2 ≤ n → CF n 15 [.d (.tuple (ps.map eTp)), .d (eTy s)] σ = .ok (.d (eTy (tyPut ps s))) σ := by
 intro s
 induction s with
 | bool =>
  intro n σ hn
  obtain ⟨n, rfl⟩ := pos_of hn
  show close σ.length (exSs G (CF n) b15 [Dv (.tuple (ps.map eTp)), Dv (eTy .bool), none, none] σ) = _
  simp only [EV, b15, Z89, Z90, Z91, Z92, Z161, Z162, Z163, Z164]
 | ind =>
  intro n σ hn
  obtain ⟨n, rfl⟩ := pos_of hn
  show close σ.length (exSs G (CF n) b15 [Dv (.tuple (ps.map eTp)), Dv (eTy .ind), none, none] σ) = _
  simp only [EV, b15, Z89, Z90, Z91, Z92, Z161, Z162, Z163, Z164]
 | any m =>
  intro n σ hn
  obtain ⟨n, rfl⟩ := pos_of hn
  show close σ.length (exSs G (CF n) b15 [Dv (.tuple (ps.map eTp)), Dv (eTy (.any m)), none, none] σ) = _
  simp only [EV, b15, Z89, Z90, Z91, Z92, s_fors]
  refine Exists.elim (for_find (body := exSs G (CF n) [.ite (.cmp .eq (.var 2) (Qx 1 1)) [.ret (.var 3)] []]) (t := .tup [.var 2, .var 3]) (σ := σ) eTp (fun p => if p.1.same m then some (eTy p.2) else none)
   (fun fr => ∃ a b, fr = [Dv (.tuple (ps.map eTp)), Dv (.tuple [.str (st 10), .str (st m.i)]), a, b]) (items := ps) (.tuple _) ?_ (fr := [Dv (.tuple (ps.map eTp)), Dv (.tuple [.str (st 10), .str (st m.i)]), none, none]) ⟨none, none, rfl⟩) ?_
  ·rintro fr p ⟨a, b, rfl⟩
   refine ⟨[Dv (.tuple (ps.map eTp)), Dv (.tuple [.str (st 10), .str (st m.i)]), Dv (.str (st p.1.i)), Dv (eTy p.2)], by simp only [EV, eTp], ?_⟩
   cases hq : p.1.same m with
   | true => simp only [EV, if_true, tn_eq, hq]
   | false =>
    simp only [Bool.false_eq_true, if_false]
    exact ⟨_, ⟨Dv (.str (st p.1.i)), Dv (eTy p.2), rfl⟩, by simp only [EV, tn_eq, hq]⟩
  ·rintro fr' ⟨⟨a, b, rfl⟩, hk⟩
   rw [hk, find_lookT]
   simp only [Z161, Z162, Z163, Z164]
   cases lookT m ps with
   | some s => simp only [EV, Option.map_some, Option.getD_some]
   | none => simp only [EV, Option.map_none, Option.getD_none, Z89, Z90, Z91, Z92]
 | fn a b iha ihb =>
  intro n σ hn
  simp only [Z150, Z151, Z152, Z153] at hn
  obtain ⟨n, rfl⟩ := pos_of hn
  obtain ⟨n, rfl⟩ := pos_of (n := n) (k := 0) (by exact Bd.fn hn rfl)
  show close σ.length (exSs G (CF (n + 1)) b15 [Dv (.tuple (ps.map eTp)), Dv (eTy (.fn a b)), none, none] σ) = _
  have h1 := iha (n + 1) σ (by exact Bd.f1 hn)
  have h2 := ihb (n + 1) σ (by exact Bd.f2 hn)
  simp only [EV, b15, Z89, Z90, Z91, Z92, h1, h2, call_fnT, Z161, Z162, Z163, Z164]
noncomputable def typesPut (ps : List Tp) : Tm → Tm
 | .var x k t => .var x k (tyPut ps t)
 | .con x t => .con x (tyPut ps t)
 | .app f a => .app (typesPut ps f) (typesPut ps a)
 | .lam x k t b => .lam x k (tyPut ps t) (typesPut ps b)
theorem Z37 : typesPut ps (.var x k t) = (.var x k (tyPut ps t)) := rfl
theorem Z38 : typesPut ps (.con x t) = (.con x (tyPut ps t)) := rfl
theorem Z39 : typesPut ps (.app f a) = (.app (typesPut ps f) (typesPut ps a)) := rfl
theorem Z40 : typesPut ps (.lam x k t b) = (.lam x k (tyPut ps t) (typesPut ps b)) := rfl
theorem mem_tup2 (a b c : Str) : cmpD .mem (.str a) (.tuple [.str b, .str c]) = some (.bool (b == a || (c == a || false))) := rfl
theorem call_types_put_var (ps : List Tp) (x : Bs) (k : Nat) (t : Ty) (n : Nat) (σ : Store) (hn : t.dp + 3 ≤ n) : CF n 16 [.d (.tuple (ps.map eTp)), .d (.tuple [.str (st 3), .str (nm x k), eTy t])] σ = .ok (.d (.tuple [.str (st 3), .str (nm x k), eTy (tyPut ps t)])) σ := by
 obtain ⟨n, rfl⟩ := pos_of hn
 show close σ.length (exSs G (CF n) b16 [Dv (.tuple (ps.map eTp)), Dv (.tuple [.str (st 3), .str (nm x k), eTy t])] σ) = _
 have h1 := call_type_put ps t n σ (by exact Bd.sb hn rfl)
 simp only [EV, b16, Bool.false_or, mem_tup2, Bool.true_or, h1]
theorem call_types_put (ps : List Tp) : ∀ (t : Tm) (n : Nat) (σ : Store), t.dp + 3 ≤ n → CF n 16 [.d (.tuple (ps.map eTp)), .d (eTm t)] σ = .ok (.d (eTm (typesPut ps t))) σ := by
 intro t
 induction t with
 | var x k t => intro n σ hn; exact call_types_put_var ps x k t n σ hn
 | con x t =>
  intro n σ hn
  simp only [Z114, Z115, Z116, Z117] at hn
  obtain ⟨n, rfl⟩ := pos_of hn
  show close σ.length (exSs G (CF n) b16 [Dv (.tuple (ps.map eTp)), Dv (eTm (.con x t))] σ) = _
  have h1 := call_type_put ps t n σ (by exact Bd.sb hn rfl)
  simp only [EV, b16, Z63, Z64, Z65, Z66, Bool.true_or, Bool.false_or, mem_tup2, Bool.or_true, h1, Z37, Z38, Z39, Z40]
 | app f a ihf iha =>
  intro n σ hn
  simp only [Z114, Z115, Z116, Z117] at hn
  obtain ⟨n, rfl⟩ := pos_of hn
  show close σ.length (exSs G (CF n) b16 [Dv (.tuple (ps.map eTp)), Dv (eTm (.app f a))] σ) = _
  have h1 := ihf n σ (by exact Bd.f1 hn)
  have h2 := iha n σ (by exact Bd.f2 hn)
  simp only [EV, b16, Z63, Z64, Z65, Z66, Bool.true_or, Bool.false_or, mem_tup2, Bool.or_false, h1, h2, Z37, Z38, Z39, Z40]
 | lam x k t b ih =>
  intro n σ hn
  simp only [Z114, Z115, Z116, Z117] at hn
  obtain ⟨n, rfl⟩ := pos_of hn
  show close σ.length (exSs G (CF n) b16 [Dv (.tuple (ps.map eTp)), Dv (eTm (.lam x k t b))] σ) = _
  have h1 := call_types_put_var ps x k t n σ (by exact Bd.f1 hn)
  have h2 := ih n σ (by exact Bd.f2 hn)
  simp only [EV, b16, Z63, Z64, Z65, Z66, Bool.true_or, Bool.false_or, mem_tup2, Bool.or_false, h1, h2, Z37, Z38, Z39, Z40]
noncomputable def tyOpen : Ty → Bool
 | .bool => false
 | .ind => false
 | .any _ => true
 | .fn a b => tyOpen a || tyOpen b
theorem Z118 : tyOpen (.bool) = (false) := rfl
theorem Z119 : tyOpen (.ind) = (false) := rfl
theorem Z120 : tyOpen (.any u1) = (true) := rfl
theorem Z121 : tyOpen (.fn a b) = (tyOpen a || tyOpen b) := rfl
noncomputable def isOpen : Tm → Bool
 | .var _ _ t => tyOpen t
 | .con _ t => tyOpen t
 | .app f a => isOpen f || isOpen a
 | .lam _ _ t b => tyOpen t || isOpen b
theorem Z110 : isOpen (.var u1 u2 t) = (tyOpen t) := rfl
theorem Z111 : isOpen (.con u1 t) = (tyOpen t) := rfl
theorem Z112 : isOpen (.app f a) = (isOpen f || isOpen a) := rfl
theorem Z113 : isOpen (.lam u1 u2 t b) = (tyOpen t || isOpen b) := rfl
theorem call_ty_open : ∀ (s : Ty) (n : Nat) (σ : Store), s.dp + 1 ≤ n → CF n 17 [.d (eTy s)] σ = .ok (.d (.bool (tyOpen s))) σ := by
 intro s
 induction s with
 | bool =>
  intro n σ hn; obtain ⟨n, rfl⟩ := pos_of hn
  show close σ.length (exSs G (CF n) b17 [Dv (eTy .bool)] σ) = _
  simp only [EV, b17, Z89, Z90, Z91, Z92, Z118, Z119, Z120, Z121]
 | ind =>
  intro n σ hn; obtain ⟨n, rfl⟩ := pos_of hn
  show close σ.length (exSs G (CF n) b17 [Dv (eTy .ind)] σ) = _
  simp only [EV, b17, Z89, Z90, Z91, Z92, Z118, Z119, Z120, Z121]
 | any m =>
  intro n σ hn; obtain ⟨n, rfl⟩ := pos_of hn
  show close σ.length (exSs G (CF n) b17 [Dv (eTy (.any m))] σ) = _
  simp only [EV, b17, Z89, Z90, Z91, Z92, Z118, Z119, Z120, Z121]
 | fn a b iha ihb =>
  intro n σ hn; simp only [Z150, Z151, Z152, Z153] at hn; obtain ⟨n, rfl⟩ := pos_of hn
  show close σ.length (exSs G (CF n) b17 [Dv (eTy (.fn a b))] σ) = _
  have h1 := iha n σ (by exact Bd.f1 hn)
  have h2 := ihb n σ (by exact Bd.f2 hn)
  cases ho : tyOpen a with
  | true => simp only [EV, b17, Z89, Z90, Z91, Z92, h1, ho, Z118, Z119, Z120, Z121, Bool.true_or]
  | false => cases ho' : tyOpen b <;> simp only [EV, b17, Z89, Z90, Z91, Z92, h1, h2, ho, ho', Z118, Z119, Z120, Z121, Bool.or_false, Bool.or_true]
theorem call_is_open_var (x : Bs) (k : Nat) (t : Ty) (n : Nat) (σ : Store) (hn : t.dp + 2 ≤ n) : CF n 18 [.d (.tuple [.str (st 3), .str (nm x k), eTy t])] σ = .ok (.d (.bool (tyOpen t))) σ := by
 obtain ⟨n, rfl⟩ := pos_of hn
 show close σ.length (exSs G (CF n) b18 [Dv (.tuple [.str (st 3), .str (nm x k), eTy t])] σ) = _
 have h1 := call_ty_open t n σ (by exact Bd.sb hn rfl)
 simp only [EV, b18, Bool.false_or, mem_tup2, Bool.true_or, h1]
theorem call_is_open : ∀ (t : Tm) (n : Nat) (σ : Store), t.dp + 2 ≤ n → CF n 18 [.d (eTm t)] σ = .ok (.d (.bool (isOpen t))) σ := by
 intro t
 induction t with
 | var x k t => intro n σ hn; exact call_is_open_var x k t n σ hn
 | con x t =>
  intro n σ hn; simp only [Z114, Z115, Z116, Z117] at hn; obtain ⟨n, rfl⟩ := pos_of hn
  show close σ.length (exSs G (CF n) b18 [Dv (eTm (.con x t))] σ) = _
  have h1 := call_ty_open t n σ (by exact Bd.sb hn rfl)
  simp only [EV, b18, Z63, Z64, Z65, Z66, Bool.true_or, Bool.false_or, mem_tup2, Bool.or_true, h1, Z110, Z111, Z112, Z113]
 | app f a ihf iha =>
  intro n σ hn; simp only [Z114, Z115, Z116, Z117] at hn; obtain ⟨n, rfl⟩ := pos_of hn
  show close σ.length (exSs G (CF n) b18 [Dv (eTm (.app f a))] σ) = _
  have h1 := ihf n σ (by exact Bd.f1 hn)
  have h2 := iha n σ (by exact Bd.f2 hn)
  cases ho : isOpen f with
  | true => simp only [EV, b18, Z63, Z64, Z65, Z66, Bool.false_or, mem_tup2, Bool.or_false, h1, ho, Z110, Z111, Z112, Z113, Bool.true_or]
  | false => cases ho' : isOpen a <;> simp only [EV, b18, Z63, Z64, Z65, Z66, Bool.true_or, Bool.false_or, mem_tup2, h1, h2, ho, ho', Z110, Z111, Z112, Z113, Bool.or_false, Bool.or_true]
 | lam x k t b ih =>
  intro n σ hn; simp only [Z114, Z115, Z116, Z117] at hn; obtain ⟨n, rfl⟩ := pos_of hn
  show close σ.length (exSs G (CF n) b18 [Dv (eTm (.lam x k t b))] σ) = _
  have h1 := call_is_open_var x k t n σ (by exact Bd.f1 hn)
  have h2 := ih n σ (by exact Bd.f2 hn)
  cases ho : tyOpen t with
  | true => simp only [EV, b18, Z63, Z64, Z65, Z66, Bool.false_or, mem_tup2, Bool.or_false, h1, ho, Z110, Z111, Z112, Z113, Bool.true_or]
  | false => cases ho' : isOpen b <;> simp only [EV, b18, Z63, Z64, Z65, Z66, Bool.true_or, Bool.false_or, mem_tup2, h1, h2, ho, ho', Z110, Z111, Z112, Z113, Bool.or_false, Bool.or_true]
noncomputable abbrev Cs2 := List (Cn × Ty)
noncomputable def eCs (cs : Cs2) : List (Str × PyData) := cs.map fun p => (st p.1.i, eTy p.2)
noncomputable def lookC (x : Cn) : Cs2 → Option Ty
 | [] => none
 | (y, t) :: r => if x.same y then some t else lookC x r
theorem Z81 : lookC x ([]) = (none) := rfl
theorem Z82 : lookC x ((y, t) :: r) = (if x.same y then some t else lookC x r) := rfl
theorem look_eCs (x : Cn) : ∀ cs : Cs2, (eCs cs).lookup (st x.i) = (lookC x cs).map eTy
 | [] => rfl
 | (y, t) :: r => by
  show List.lookup (st x.i) ((st y.i, eTy t) :: eCs r) = _
  (rewrite [List.lookup_cons, cn_eq]; (first | rw [Z81] | rw [Z82]))
  cases x.same y with
  | true => rfl
  | false => exact look_eCs x r
noncomputable def dHasK (ng : Bool) (o : Option (Option V)) (v : V) (σ : Store) : Res V := match v with
   | .d (.str k) => (Res.of σ (dictAt σ o)).bind fun kvs σ => .ok (.d (.bool (ng != (kvs.lookup k).isSome))) σ
   | _ => .stuck
theorem e_dHas {G : List PyData} {C : CallT} {fr : Frame} {σ : Store} (ng : Bool) (a : E) (i : Nat) : evE G C (.dHas ng a i) fr σ = k1 (dHasK ng fr[i]?) (evE G C a fr σ) := by rw [evx_dHas]; rfl
theorem dHasK_is {ng : Bool} {m : Nat} {x : Cn} {σ : Store} {cs : Cs2} (h : σ[m]? = some (.dct (eCs cs))) : dHasK ng (some (some (.loc m))) (.d (.str (st x.i))) σ = .ok (.d (.bool (ng != (lookC x cs).isSome))) σ := by
 unfold dHasK dictAt; dsimp only; rw [h]; dsimp only; rw [Res.of_some, Res.bind_ok, look_eCs]; cases lookC x cs <;> rfl
noncomputable def dGetK (m : Nat) (v : V) (σ : Store) : Res V := match v with
    | .d (.str k) => (Res.of σ (dictAt σ (some (some (.loc m))))).bind fun kvs σ => (Res.of σ (kvs.lookup k)).bind fun r σ => .ok (.d r) σ
    | _ => .stuck
theorem e_dGet {G : List PyData} {C : CallT} {fr : Frame} {σ : Store} (i m : Nat) (a : E) (h : fr[i]? = some (some (.loc m))) : evE G C (.dGet i a) fr σ = k1 (dGetK m) (evE G C a fr σ) := by rw [evx_dGet, h]; rfl
theorem dGetK_is {m : Nat} {x : Cn} {σ : Store} {cs : Cs2} {t : Ty} (h : σ[m]? = some (.dct (eCs cs))) (hl : lookC x cs = some t) : dGetK m (.d (.str (st x.i))) σ = .ok (.d (eTy t)) σ := by
 unfold dGetK dictAt; dsimp only; rw [h]; dsimp only; rw [Res.of_some, Res.bind_ok, look_eCs, hl]; rfl
noncomputable def ckCons (cs : Cs2) : Tm → Bool
 | .var _ _ _ => true
 | .con x t => x.same .eq || (match lookC x cs with | some s => s.eq t | none => false)
 | .app f a => ckCons cs f && ckCons cs a
 | .lam _ _ _ b => ckCons cs b
theorem Z55 : ckCons cs (.var u1 u2 u3) = (true) := rfl
theorem Z56 : ckCons cs (.con x t) = (x.same .eq || (match lookC x cs with | some s => s.eq t | none => false)) := rfl
theorem Z57 : ckCons cs (.app f a) = (ckCons cs f && ckCons cs a) := rfl
theorem Z58 : ckCons cs (.lam u1 u2 u3 b) = (ckCons cs b) := rfl
theorem call_check (cs : Cs2) : ∀ (t : Tm) (n : Nat) (σ : Store) (m : Nat), t.dp + 1 ≤ n → t.dp ≤ 800 → σ[m]? = some (.dct (eCs cs)) → CF n 19 [.loc m, .d (eTm t)] σ = if ckCons cs t then .ok (.d .none) σ else .err σ := by
 intro t
 induction t with
 | var x k t =>
  intro n σ m hn hd hσ
  obtain ⟨n, rfl⟩ := pos_of hn
  show close σ.length (exSs G (CF n) b19 [some (.loc m), Dv (eTm (.var x k t))] σ) = _
  simp only [EV, b19, Z63, Z64, Z65, Z66, Z55, Z56, Z57, Z58, if_true]
 | con x t =>
  intro n σ m hn hd hσ
  simp only [Z114, Z115, Z116, Z117] at hd
  obtain ⟨n, rfl⟩ := pos_of hn
  show close σ.length (exSs G (CF n) b19 [some (.loc m), Dv (eTm (.con x t))] σ) = _
  simp only [EV, b19, Z63, Z64, Z65, Z66, cn_st]
  cases hx : x.same .eq with
  | true => simp only [EV, Z55, Z56, Z57, Z58, hx, Bool.true_or, if_true]
  | false =>
   simp only [EV, e_dHas, dHasK_is hσ]
   cases hl : lookC x cs with
   | none => simp only [EV, Option.isSome_none, bne_self_eq_false, Bool.true_bne, Bool.not_false, Z55, Z56, Z57, Z58, hx, hl, Bool.false_or, Bool.false_eq_true, if_false]
   | some s =>
    simp only [EV, Option.isSome_some, Bool.true_bne, Bool.not_true]
    rw [e_dGet 0 m _ rfl]
    have hc : cmpD .ne (eTy s) (eTy t) = some (.bool (!(s.eq t))) := by
     have := depth_ty t
     refine cmpD_is _ _ _ ?_
     rw [cmp_n, if_pos (.inl (by simp only [dlim]; exact Bd.t1 this hd rfl)), eqv_ty]
    simp only [EV, dGetK_is hσ hl, hc, Z55, Z56, Z57, Z58, hx, hl, Bool.false_or]
    cases s.eq t <;> simp only [EV, Bool.false_eq_true, if_false, if_true]
 | app f a ihf iha =>
  intro n σ m hn hd hσ
  simp only [Z114, Z115, Z116, Z117] at hn hd
  obtain ⟨n, rfl⟩ := pos_of hn
  show close σ.length (exSs G (CF n) b19 [some (.loc m), Dv (eTm (.app f a))] σ) = _
  have h1 := ihf n σ m (by exact Bd.f1 hn) (by exact Bd.m1 hd) hσ
  have h2 := iha n σ m (by exact Bd.f2 hn) (by exact Bd.m2 hd) hσ
  cases hf : ckCons cs f with
  | false => simp only [EV, b19, Z63, Z64, Z65, Z66, h1, hf, Z55, Z56, Z57, Z58, Bool.false_and, Bool.false_eq_true, if_false]
  | true => cases ha : ckCons cs a <;> simp only [EV, b19, Z63, Z64, Z65, Z66, h1, h2, hf, ha, Z55, Z56, Z57, Z58, Bool.true_and, Bool.and_false, Bool.and_true, Bool.false_eq_true, if_false, if_true]
 | lam x k t b ih =>
  intro n σ m hn hd hσ
  simp only [Z114, Z115, Z116, Z117] at hn hd
  obtain ⟨n, rfl⟩ := pos_of hn
  show close σ.length (exSs G (CF n) b19 [some (.loc m), Dv (eTm (.lam x k t b))] σ) = _
  have h1 := ih n σ m (by exact Bd.f2 hn) (by exact Bd.m2 hd) hσ
  cases hb : ckCons cs b <;> simp only [EV, b19, Z63, Z64, Z65, Z66, h1, hb, Z55, Z56, Z57, Z58, Bool.false_eq_true, if_false, if_true]
noncomputable def checked (cs : Cs2) (t : Tm) : Option Ty := if ckCons cs t then typeOf t else none
theorem call_checked (cs : Cs2) (t : Tm) (n : Nat) (σ : Store) (m : Nat) (hn : t.dp + 3 ≤ n) (hd : t.dp ≤ 800) (hσ : σ[m]? = some (.dct (eCs cs))) : CF n 20 [.loc m, .d (eTm t)] σ = ofTy σ (checked cs t) := by
 obtain ⟨n, rfl⟩ := pos_of hn
 show close σ.length (exSs G (CF n) b20 [some (.loc m), Dv (eTm t)] σ) = _
 have h1 := call_check cs t n σ m (by exact Bd.sb hn rfl) hd hσ
 have h2 := call_type_of t n σ (by exact Bd.sb hn rfl) hd
 unfold checked
 cases hc : ckCons cs t with
 | false => simp only [EV, b20, h1, hc, Bool.false_eq_true, if_false, ofTy]
 | true =>
  simp only [EV, b20, h1, hc, if_true, h2]
  cases typeOf t <;> simp only [EV, ofTy]
structure Th where
 hs : List Tm
 c : Tm
noncomputable def eTh (t : Th) : PyData := .tuple [.tuple (t.hs.map eTm), eTm t.c]
noncomputable def ofTh (σ : Store) : Option Th → Res V
 | some t => .ok (.d (eTh t)) σ
 | none => .err σ
structure Mo (t : Tm) : Prop where
 dp : t.dp ≤ 60
 sz : t.sz ≤ 100
 vs : t.vs ≤ 500
 pk : t.pk ≤ 100
structure MoTh (t : Th) : Prop where
 hs : ∀ h ∈ t.hs, Mo h
 c : Mo t.c
 len : t.hs.length ≤ 100
theorem Mo.sm {t : Tm} (h : Mo t) {n : Nat} (hn : 100 ≤ n) : Sm n t := ⟨by have := h.dp; exact Bd.wkn this hn rfl, by have := h.dp; exact Bd.wk this rfl⟩
noncomputable def getTh (made : List Th) (i : Int) : Option Th := if i < 0 ∨ (made.length : Int) ≤ i then none else made[i.toNat]?
theorem cmp_lt (a b : Int) : cmpD .lt (.int a) (.int b) = some (.bool (decide (a < b))) := rfl
theorem cmp_ge (a b : Int) : cmpD .ge (.int a) (.int b) = some (.bool (decide (b ≤ a))) := rfl
theorem cmp_gt (a b : Int) : cmpD .gt (.int a) (.int b) = some (.bool (decide (b < a))) := rfl
theorem at0_int {i : Int} (h0 : 0 ≤ i) (h1 : i < 1000) : at0 i = some i.toNat := by
 obtain ⟨j, rfl⟩ := Int.eq_ofNat_of_zero_le h0
 rw [Int.toNat_natCast]
 exact at0_nat j (by lia)
theorem call_theorem (n : Nat) (σ : Store) (m : Nat) (made : List Th) (i : Int) (hσ : σ[m]? = some (.lst (made.map eTh))) (hl : made.length ≤ 900) : CF (n + 1) 21 [.loc m, .d (.int i)] σ = ofTh σ (getTh made i) := by
 show close σ.length (exSs G (CF n) b21 [some (.loc m), Iv i] σ) = _
 have hlen : lenOp (.list (made.map eTh)) = some (.int made.length) := by rw [len_list _ (by simp [lim]; exact Bd.wk hl rfl)]; simp
 unfold getTh
 by_cases h0 : i < 0
 ·simp only [EV, b21, cmp_lt, h0, decide_true, true_or, if_true, ofTh]
 ·by_cases h1 : (made.length : Int) ≤ i
  ·simp only [EV, b21, cmp_lt, cmp_ge, h0, decide_false, ou_l _ hσ, hlen, h1, decide_true, or_true, if_true, ofTh]
  ·have hx : ∃ th, made[i.toNat]? = some th := ⟨made[i.toNat]'(by lia), List.getElem?_eq_getElem (by lia)⟩
   obtain ⟨th, hth⟩ := hx
   have hi : idxOp (.list (made.map eTh)) (.int i) = some (eTh th) := by
    show ((at0 i).bind fun n => (made.map eTh)[n]?) = _
    rw [at0_int (by lia) (by lia)]
    simp [hth]
   simp only [EV, b21, cmp_lt, cmp_ge, h0, decide_false, ou_l _ hσ, hlen, h1, or_self, if_false, oq_ld _ _ hσ, hi, hth, ofTh]
theorem tm_ty {σ : Store} {n : Nat} {a b : Tm} (h : CF n 8 [.d (eTm a), .d (eTm b)] σ = ofTm σ ((typeOf a).map fun s => eqT s a b)) : True := trivial
noncomputable def oneTerm (cs : Cs2) : Nat → Vr → Tm → Option Th
 | 11, _, t => (checked cs t).bind fun _ => (typeOf t).map fun s => ⟨[], eqT s t t⟩
 | 12, _, t => (checked cs t).bind fun s => if s.eq .bool then some ⟨[t], t⟩ else none
 | _, v, t => (checked cs t).bind fun _ => (typeOf (.app (.lam v.x v.k v.t t) (.var v.x v.k v.t))).map fun s => ⟨[], eqT s (.app (.lam v.x v.k v.t t) (.var v.x v.k v.t)) t⟩
theorem call_refl (cs : Cs2) (t : Tm) (n : Nat) (σ : Store) (m : Nat) (ht : Mo t) (hn : 100 ≤ n) (hσ : σ[m]? = some (.dct (eCs cs))) : CF (n + 1) 22 [.d (.str (st 11)), .d (.tuple [.str (st 11), eTm t]), .loc m] σ = ofTh σ (oneTerm cs 11 ⟨.x, 0, .bool⟩ t) := by
 have hd := ht.dp
 show close σ.length (exSs G (CF n) b22 [Dv (.str (st 11)), Dv (.tuple [.str (st 11), eTm t]), some (.loc m)] σ) = _
 have h1 := call_checked cs t n σ m (by exact Bd.wkn hd hn rfl) (by exact Bd.wk hd rfl) hσ
 have h2 := call_eq n σ t t (by exact Bd.wkn hd hn rfl) (by exact Bd.wk hd rfl)
 unfold oneTerm
 cases hc : checked cs t with
 | none => simp only [EV, b22, h1, hc, ofTy, Option.bind_none, ofTh]
 | some ty =>
  simp only [EV, b22, h1, hc, ofTy, Option.bind_some, h2]
  cases typeOf t with
  | none => simp only [EV, Option.map_none, ofTm, ofTh]
  | some s => simp only [EV, Option.map_some, ofTm, ofTh, eTh, List.map_nil]
theorem call_assume (cs : Cs2) (t : Tm) (n : Nat) (σ : Store) (m : Nat) (ht : Mo t) (hn : 100 ≤ n) (hσ : σ[m]? = some (.dct (eCs cs))) : CF (n + 1) 22 [.d (.str (st 12)), .d (.tuple [.str (st 12), eTm t]), .loc m] σ = ofTh σ (oneTerm cs 12 ⟨.x, 0, .bool⟩ t) := by
 have hd := ht.dp
 show close σ.length (exSs G (CF n) b22 [Dv (.str (st 12)), Dv (.tuple [.str (st 12), eTm t]), some (.loc m)] σ) = _
 have h1 := call_checked cs t n σ m (by exact Bd.wkn hd hn rfl) (by exact Bd.wk hd rfl) hσ
 unfold oneTerm
 cases hc : checked cs t with
 | none => simp only [EV, b22, h1, hc, ofTy, Option.bind_none, ofTh]
 | some ty =>
  have hcm : cmpD .ne (eTy ty) (eTy .bool) = some (.bool (!(ty.eq .bool))) := by
   refine cmpD_is _ _ _ ?_
   rw [cmp_n, if_pos (.inl (by simp [Z89, Z90, Z91, Z92, PyData.depth, PyData.depthAll, dlim])), eqv_ty]
  simp only [EV, b22, h1, hc, ofTy, Option.bind_some, G0, hcm]
  cases ty.eq .bool <;> simp only [EV, if_true, Bool.false_eq_true, if_false, ofTh, eTh, List.map_cons, List.map_nil]
theorem call_beta (cs : Cs2) (v : Vr) (t : Tm) (n : Nat) (σ : Store) (m : Nat) (ht : Mo t) (hv : v.t.dp ≤ 60) (hn : 100 ≤ n) (hσ : σ[m]? = some (.dct (eCs cs))) : CF (n + 1) 22 [.d (.str (st 16)), .d (.tuple [.str (st 16), eVr v, eTm t]), .loc m] σ = ofTh σ (oneTerm cs 16 v t) := by
 have hd := ht.dp
 show close σ.length (exSs G (CF n) b22 [Dv (.str (st 16)), Dv (.tuple [.str (st 16), eVr v, eTm t]), some (.loc m)] σ) = _
 have h1 := call_checked cs t n σ m (by exact Bd.wkn hd hn rfl) (by exact Bd.wk hd rfl) hσ
 have hdp : (Tm.app (.lam v.x v.k v.t t) (.var v.x v.k v.t)).dp ≤ 62 := by simp only [Z114, Z115, Z116, Z117]; (apply Bd.sc; (apply Bd.mx <;> (first | exact Bd.wk hv rfl | (with_reducible apply Bd.sc; (apply Bd.mx <;> (first | exact hv | exact hd))))))
 have h2 := call_eq n σ (.app (.lam v.x v.k v.t t) (.var v.x v.k v.t)) t (by exact Bd.wkn hdp hn rfl) (by exact Bd.wk hdp rfl)
 have he : eTm (.app (.lam v.x v.k v.t t) (.var v.x v.k v.t)) = .tuple [.str (st 7), .tuple [.str (st 6), eVr v, eTm t], eVr v] := rfl
 rw [he] at h2
 unfold oneTerm
 cases hc : checked cs t with
 | none => simp only [EV, b22, h1, hc, ofTy, Option.bind_none, ofTh]
 | some ty =>
  simp only [EV, b22, h1, hc, ofTy, Option.bind_some, h2]
  cases typeOf (.app (.lam v.x v.k v.t t) (.var v.x v.k v.t)) with
  | none => simp only [EV, Option.map_none, ofTm, ofTh]
  | some s => simp only [EV, Option.map_some, ofTm, ofTh, eTh, List.map_nil]
inductive K2 where | trans | comb | eqmp | antisym
noncomputable def K2.i : K2 → Nat | .trans => 15 | .comb => 7 | .eqmp => 14 | .antisym => 13
noncomputable def twoTh : K2 → Th → Th → Option Th
 | .antisym, l, r => (typeOf l.c).map fun s => ⟨joinL (withoutL l.hs r.c) (withoutL r.hs l.c), eqT s l.c r.c⟩
 | .eqmp, l, r => (sides l.c).bind fun ab => if alike ab.1 r.c then some ⟨joinL l.hs r.hs, ab.2⟩ else none
 | .trans, l, r => (sides l.c).bind fun ab => (sides r.c).bind fun cd => if alike ab.2 cd.1 then (typeOf ab.1).map fun s => ⟨joinL l.hs r.hs, eqT s ab.1 cd.2⟩ else none
 | .comb, l, r => (sides l.c).bind fun ab => (sides r.c).bind fun cd => (typeOf (.app ab.1 cd.1)).map fun s => ⟨joinL l.hs r.hs, eqT s (.app ab.1 cd.1) (.app ab.2 cd.2)⟩
theorem sides_mo {t : Tm} {ab : Tm × Tm} (h : sides t = some ab) (hd : t.dp ≤ 60) : ab.1.dp ≤ 60 ∧ ab.2.dp ≤ 60 := by
 unfold sides at h
 split at h
 ·split at h <;> simp at h
  subst h
  simp only [Z114, Z115, Z116, Z117] at hd
  constructor <;> (dsimp only; (first | exact Bd.m2 hd | exact Bd.m02 hd))
 ·cases h
theorem mem_without {a : List Tm} {p q : Tm} (h : q ∈ withoutL a p) : q ∈ a := (List.mem_filter.mp h).1
theorem idx_th0 (t : Th) : idxOp (eTh t) (.int 0) = some (.tuple (t.hs.map eTm)) := rfl
theorem idx_th1 (t : Th) : idxOp (eTh t) (.int 1) = some (eTm t.c) := rfl
theorem call_two (k : K2) (l r : Th) (n : Nat) (σ : Store) (hl : MoTh l) (hr : MoTh r) (hn : 110 ≤ n) : CF (n + 1) 23 [.d (.str (st k.i)), .d (eTh l), .d (eTh r)] σ = ofTh σ (twoTh k l r) := by
 obtain ⟨n, rfl⟩ := pos_of (n := n) (k := 0) (by exact Bd.lw hn rfl)
 obtain ⟨n, rfl⟩ := pos_of (n := n) (k := 0) (by exact Bd.fn hn rfl)
 have hld := hl.c.dp; have hrd := hr.c.dp; have hll := hl.len; have hrl := hr.len
 show close σ.length (exSs G (CF (n + 2)) b23 [Dv (.str (st k.i)), Dv (eTh l), Dv (eTh r), none, none, none, none, none] σ) = _
 have hj := call_join (n + 1) σ l.hs r.hs (.tuple (l.hs.map eTm)) (.tuple (r.hs.map eTm)) rfl rfl (fun q hq => (hl.hs q hq).sm (by exact Bd.fn hn rfl)) (fun q hq => (hr.hs q hq).sm (by exact Bd.fn hn rfl)) (by exact Bd.sm hll hrl rfl) (by exact Bd.fn hn rfl)
 have hs1 := call_sides n σ l.c
 have hs2 := call_sides n σ r.c
 cases k with
 | antisym =>
  have hw1 := call_without (n + 1) σ l.hs r.c (.tuple (l.hs.map eTm)) rfl (fun q hq => (hl.hs q hq).sm (by exact Bd.fn hn rfl)) (hr.c.sm (by exact Bd.fn hn rfl)) (by exact Bd.wk hll rfl)
  have hw2 := call_without (n + 1) σ r.hs l.c (.tuple (r.hs.map eTm)) rfl (fun q hq => (hr.hs q hq).sm (by exact Bd.fn hn rfl)) (hl.c.sm (by exact Bd.fn hn rfl)) (by exact Bd.wk hrl rfl)
  have w1 : (withoutL l.hs r.c).length ≤ l.hs.length := List.length_filter_le ..
  have w2 : (withoutL r.hs l.c).length ≤ r.hs.length := List.length_filter_le ..
  have hj2 := call_join (n + 1) σ (withoutL l.hs r.c) (withoutL r.hs l.c) (.tuple ((withoutL l.hs r.c).map eTm)) (.tuple ((withoutL r.hs l.c).map eTm)) rfl rfl (fun q hq => (hl.hs q (mem_without hq)).sm (by exact Bd.fn hn rfl)) (fun q hq => (hr.hs q (mem_without hq)).sm (by exact Bd.fn hn rfl)) (by lia) (by exact Bd.fn hn rfl)
  have he := call_eq (n + 2) σ l.c r.c (by exact Bd.wkn hld hn rfl) (by exact Bd.wk hld rfl)
  simp only [EV, b23, K2.i, idx_th0, idx_th1, idx_th0, idx_th1, hj, hw1, hw2, hj2, he, twoTh]
  cases typeOf l.c with
  | none => simp only [EV, Option.map_none, ofTm, idx_th0, idx_th1, ofTh]
  | some s => simp only [EV, Option.map_some, ofTm, idx_th0, idx_th1, ofTh, eTh]
 | eqmp =>
  simp only [EV, b23, K2.i, idx_th0, idx_th1, idx_th0, idx_th1, hj, hs1, twoTh]
  cases hq : sides l.c with
  | none => simp only [EV, Option.bind_none, idx_th0, idx_th1, ofTh]
  | some ab =>
   have hm := sides_mo hq hld
   have ha := call_alike ab.1 r.c (n + 2) σ (by lia) (by exact Bd.wkn hrd hn rfl) (by lia) (by exact Bd.wk hrd rfl)
   simp only [EV, Option.bind_some, idx_th0, idx_th1, ha]
   cases alike ab.1 r.c <;> simp only [EV, idx_th0, idx_th1, if_true, Bool.false_eq_true, if_false, ofTh, eTh]
 | trans =>
  simp only [EV, b23, K2.i, idx_th0, idx_th1, idx_th0, idx_th1, hj, hs1, twoTh]
  cases hq : sides l.c with
  | none => simp only [EV, Option.bind_none, idx_th0, idx_th1, ofTh]
  | some ab =>
   simp only [EV, Option.bind_some, idx_th0, idx_th1, hs2]
   cases hq2 : sides r.c with
   | none => simp only [EV, Option.bind_none, idx_th0, idx_th1, ofTh]
   | some cd =>
    have hm := sides_mo hq hld
    have hm2 := sides_mo hq2 hrd
    have ha := call_alike ab.2 cd.1 (n + 2) σ (by lia) (by lia) (by lia) (by lia)
    have he := call_eq (n + 2) σ ab.1 cd.2 (by lia) (by lia)
    simp only [EV, Option.bind_some, idx_th0, idx_th1, ha]
    cases alike ab.2 cd.1 with
    | false => simp only [EV, idx_th0, idx_th1, Bool.false_eq_true, if_false, ofTh]
    | true =>
     simp only [EV, idx_th0, idx_th1, if_true, he]
     cases typeOf ab.1 with
     | none => simp only [EV, Option.map_none, ofTm, idx_th0, idx_th1, ofTh]
     | some s => simp only [EV, Option.map_some, ofTm, idx_th0, idx_th1, ofTh, eTh]
 | comb =>
  simp only [EV, b23, K2.i, idx_th0, idx_th1, idx_th0, idx_th1, hj, hs1, twoTh]
  cases hq : sides l.c with
  | none => simp only [EV, Option.bind_none, idx_th0, idx_th1, ofTh]
  | some ab =>
   simp only [EV, Option.bind_some, idx_th0, idx_th1, hs2]
   cases hq2 : sides r.c with
   | none => simp only [EV, Option.bind_none, idx_th0, idx_th1, ofTh]
   | some cd =>
    have hm := sides_mo hq hld
    have hm2 := sides_mo hq2 hrd
    have hdp : (Tm.app ab.1 cd.1).dp ≤ 61 := by simp only [Z114, Z115, Z116, Z117]; (apply Bd.sc; (apply Bd.mx <;> lia))
    have he := call_eq (n + 2) σ (.app ab.1 cd.1) (.app ab.2 cd.2) (by exact Bd.wkn hdp hn rfl) (by exact Bd.wk hdp rfl)
    simp only [Z63, Z64, Z65, Z66] at he
    simp only [EV, Option.bind_some, idx_th0, idx_th1, he]
    cases typeOf (.app ab.1 cd.1) with
    | none => simp only [EV, Option.map_none, ofTm, idx_th0, idx_th1, ofTh]
    | some s => simp only [EV, Option.map_some, ofTm, idx_th0, idx_th1, ofTh, eTh]
noncomputable def underTh (v : Vr) (th : Th) : Option Th := (sides th.c).bind fun ab => if th.hs.all (fun h => !(memv v (freeV h))) then (typeOf (.lam v.x v.k v.t ab.1)).map fun s => ⟨th.hs, eqT s (.lam v.x v.k v.t ab.1) (.lam v.x v.k v.t ab.2)⟩ else none
theorem call_under (v : Vr) (th : Th) (n : Nat) (σ : Store) (ht : MoTh th) (hv : v.t.dp ≤ 60) (hn : 110 ≤ n) : CF (n + 1) 24 [.d (eVr v), .d (eTh th)] σ = ofTh σ (underTh v th) := by
 obtain ⟨n, rfl⟩ := pos_of (n := n) (k := 0) (by exact Bd.lw hn rfl)
 obtain ⟨n, rfl⟩ := pos_of (n := n) (k := 0) (by exact Bd.fn hn rfl)
 have hd := ht.c.dp
 show close σ.length (exSs G (CF (n + 2)) b24 [Dv (eVr v), Dv (eTh th), none, none, none] σ) = _
 have hs1 := call_sides n σ th.c
 unfold underTh
 simp only [EV, b24, idx_th0, idx_th1, idx_th0, idx_th1, hs1]
 cases hq : sides th.c with
 | none => simp only [EV, Option.bind_none, idx_th0, idx_th1, ofTh]
 | some ab =>
  have hm := sides_mo hq hd
  simp only [EV, Option.bind_some, idx_th0, idx_th1, s_fors, idx_th0]
  refine Exists.elim (for_check (body := exSs G (CF (n + 2)) [.ite (.cmp .mem (.var 0) (.call 3 [(.var 4)])) [.raise] []]) (t := .var 4) (σ := σ) eTm (fun h => !(memv v (freeV h)))
   (fun fr => ∃ a, fr = [Dv (eVr v), Dv (eTh th), Dv (eTm ab.1), Dv (eTm ab.2), a]) (d := .tuple (th.hs.map eTm)) (items := th.hs) rfl (fr := [Dv (eVr v), Dv (eTh th), Dv (eTm ab.1), Dv (eTm ab.2), none]) ⟨none, rfl⟩ ?_) ?_
  ·rintro fr h hh ⟨a, rfl⟩
   have hmo := ht.hs h hh
   have hfree := call_free h (n + 2) σ (by have := hmo.dp; exact Bd.wkn this hn rfl) (by have := hmo.dp; exact Bd.wk this rfl) (by have := hmo.sz; exact Bd.wk this rfl)
   have hc := mem_vr' v (freeV h) (by exact Bd.wk hv rfl)
   refine ⟨[Dv (eVr v), Dv (eTh th), Dv (eTm ab.1), Dv (eTm ab.2), Dv (eTm h)], by simp only [EV, idx_th0, idx_th1], ?_⟩
   cases hb : memv v (freeV h) with
   | true => simp only [EV, idx_th0, idx_th1, hfree, hc, hb, Bool.false_eq_true, if_false]
   | false =>
    rw [if_pos (by rfl)]
    exact ⟨_, ⟨Dv (eTm h), rfl⟩, by simp only [EV, idx_th0, idx_th1, hfree, hc, hb]⟩
  ·rintro fr' ⟨⟨a, rfl⟩, hk⟩
   rw [hk]
   cases th.hs.all (fun h => !(memv v (freeV h))) with
   | false => simp only [EV, idx_th0, idx_th1, Bool.false_eq_true, if_false, ofTh]
   | true =>
    have hdp : (Tm.lam v.x v.k v.t ab.1).dp ≤ 61 := by simp only [Z114, Z115, Z116, Z117]; (apply Bd.sc; (apply Bd.mx <;> (first | exact hv | lia)))
    have he := call_eq (n + 2) σ (.lam v.x v.k v.t ab.1) (.lam v.x v.k v.t ab.2) (by exact Bd.wkn hdp hn rfl) (by exact Bd.wk hdp rfl)
    have e1 : eTm (.lam v.x v.k v.t ab.1) = .tuple [.str (st 6), eVr v, eTm ab.1] := rfl
    have e2 : eTm (.lam v.x v.k v.t ab.2) = .tuple [.str (st 6), eVr v, eTm ab.2] := rfl
    rw [e1, e2] at he
    simp only [EV, idx_th0, idx_th1, if_true, idx_th0, he]
    cases typeOf (.lam v.x v.k v.t ab.1) with
    | none => simp only [EV, Option.map_none, ofTm, idx_th0, idx_th1, ofTh]
    | some s => simp only [EV, Option.map_some, ofTm, idx_th0, idx_th1, ofTh, eTh]
noncomputable def foldO {α β : Type} (sp : α → β → Option α) : α → List β → Option α
 | a, [] => some a
 | a, x :: xs => (sp a x).bind fun b => foldO sp b xs
theorem Z19 : foldO sp a ([]) = (some a) := rfl
theorem Z20 : foldO sp a (x :: xs) = ((sp a x).bind fun b => foldO sp b xs) := rfl
section
variable {body : Frame → Store → XR} {t : Tg} {α β : Type} (enc : β → PyData) (step : α → β → Option α) (R : α → List β → Frame → Store → Prop) (Er : Store → Prop)
noncomputable def Ends (r : List β) (o : Option α) (x : XR) : Prop := match o with
 | some b => ∃ fr σ, x = .next fr σ ∧ R b r fr σ
 | none => ∃ σ, x = .err σ ∧ Er σ
theorem rel_items (hs : ∀ a x r fr σ, R a (x :: r) fr σ → ∃ fr1, asg σ t (.d (enc x)) fr = some fr1 ∧ Ends R Er r (step a x) (body fr1 σ)) : ∀ (items : List β) (a : α) (fr : Frame) (σ : Store), R a items fr σ → Ends R Er [] (foldO step a items) (forItems body t (items.map enc) fr σ)
 | [], a, fr, σ, h => ⟨fr, σ, rfl, h⟩
 | x :: xs, a, fr, σ, h => by
  obtain ⟨fr1, h1, h2⟩ := hs a x xs fr σ h
  (rewrite [List.map_cons, fi_cons, h1, forS_some]; (first | rw [Z19] | rw [Z20]))
  cases hq : step a x with
  | none =>
   rw [hq] at h2
   obtain ⟨σ', h3, h4⟩ := h2
   exact ⟨σ', by rw [h3]; rfl, h4⟩
  | some b =>
   rw [hq] at h2
   obtain ⟨fr2, σ2, h3, h4⟩ := h2
   rw [h3, an_next]
   exact rel_items hs xs b fr2 σ2 h4
theorem rel_loc {k : Nat} {all : List PyData} (hk : ∀ a r fr σ, R a r fr σ → σ[k]? = some (.lst all)) (hs : ∀ a x r fr σ, R a (x :: r) fr σ → ∃ fr1, asg σ t (.d (enc x)) fr = some fr1 ∧ Ends R Er r (step a x) (body fr1 σ)) :
  ∀ (items : List β) (i fuel : Nat) (a : α) (fr : Frame) (σ : Store), all.drop i = items.map enc → items.length < fuel → R a items fr σ → Ends R Er [] (foldO step a items) (forLoc body t k fuel i fr σ)
 | [], i, 0, a, fr, σ, hd, hf, h => by simp at hf
 | [], i, fuel + 1, a, fr, σ, hd, hf, h => by
  have : all[i]? = none := by
   rw [List.getElem?_eq_none_iff]
   simpa using hd
  refine ⟨fr, σ, ?_, h⟩
  ((first | rewrite [Z17] | rewrite [Z18]); rw [hk a _ _ _ h]); dsimp only; rw [this]
 | x :: xs, i, 0, a, fr, σ, hd, hf, h => by simp at hf
 | x :: xs, i, fuel + 1, a, fr, σ, hd, hf, h => by
  have hi : all[i]? = some (enc x) := by
   have := congrArg (fun l => l[0]?) hd
   simpa using this
  have hd' : all.drop (i + 1) = xs.map enc := by
   have := congrArg List.tail hd
   simpa using this
  obtain ⟨fr1, h1, h2⟩ := hs a x xs fr σ h
  ((first | rewrite [Z17] | rewrite [Z18]); rw [hk a _ _ _ h]); dsimp only; rw [hi]; dsimp only; rw [h1]; dsimp only
  (first | rw [Z19] | rw [Z20])
  cases hq : step a x with
  | none =>
   rw [hq] at h2
   obtain ⟨σ', h3, h4⟩ := h2
   exact ⟨σ', by rw [h3]; rfl, h4⟩
  | some b =>
   rw [hq] at h2
   obtain ⟨fr2, σ2, h3, h4⟩ := h2
   rw [h3, an_next]
   exact rel_loc hk hs xs (i + 1) fuel b fr2 σ2 hd' (by simp at hf; exact hf) h4
theorem forK_loc {fr : Frame} {σ : Store} {k : Nat} {xs : List PyData} (h : σ[k]? = some (.lst xs)) : forK body t fr (.loc k) σ = forLoc body t k (xs.length + 1) 0 fr σ := by unfold forK; dsimp only; rw [h]; rfl
end
noncomputable def turnV (ps : List Tp) (v : Vr) : Vr := ⟨v.x, v.k, tyPut ps v.t⟩
noncomputable def turnStep (ps : List Tp) (o : List Vr) (v : Vr) : Option (List Vr) := if memv (turnV ps v) o then none else some (o ++ [turnV ps v])
noncomputable def seenOf (th : Th) : List Vr := varsInto th.c (th.hs.foldl (fun o t => varsInto t o) [])
noncomputable def withTh (ps : List Tp) (th : Th) : Option Th := (foldO (turnStep ps) [] (seenOf th)).map fun _ => ⟨joinL [] (th.hs.map (typesPut ps)), typesPut ps th.c⟩
theorem tyPut_dp {ps : List Tp} {D : Nat} (h : ∀ p ∈ ps, p.2.dp ≤ D) : ∀ s : Ty, (tyPut ps s).dp ≤ s.dp + D
 | .bool => by simp [Z161, Z162, Z163, Z164, Z150, Z151, Z152, Z153]
 | .ind => by simp [Z161, Z162, Z163, Z164, Z150, Z151, Z152, Z153]
 | .any n => by
  have hl : ∀ (ps : List Tp), (∀ p ∈ ps, p.2.dp ≤ D) → ((lookT n ps).getD (.any n)).dp ≤ D := by
   intro ps
   induction ps with
   | nil => intro _; simp [Z85, Z86, Z150, Z151, Z152, Z153]
   | cons p r ih =>
    intro h
    obtain ⟨m, s⟩ := p
    (first | rw [Z85] | rw [Z86])
    split
    ·exact h (m, s) List.mem_cons_self
    ·exact ih fun p hp => h p (List.mem_cons_of_mem _ hp)
  have := hl ps h
  simp only [Z161, Z162, Z163, Z164, Z150, Z151, Z152, Z153]; lia
 | .fn a b => by
  have := tyPut_dp h a; have := tyPut_dp h b
  simp only [Z161, Z162, Z163, Z164, Z150, Z151, Z152, Z153]; with_reducible exact Bd.id ‹_› this
theorem typesPut_dp {ps : List Tp} {D : Nat} (h : ∀ p ∈ ps, p.2.dp ≤ D) : ∀ t : Tm, (typesPut ps t).dp ≤ t.dp + D
 | .var x k t => by have := tyPut_dp h t; simp only [Z37, Z38, Z39, Z40, Z114, Z115, Z116, Z117]; exact this
 | .con x t => by have := tyPut_dp h t; simp only [Z37, Z38, Z39, Z40, Z114, Z115, Z116, Z117]; exact this
 | .app f a => by have := typesPut_dp h f; have := typesPut_dp h a; simp only [Z37, Z38, Z39, Z40, Z114, Z115, Z116, Z117]; with_reducible exact Bd.id ‹_› this
 | .lam x k t b => by have := tyPut_dp h t; have := typesPut_dp h b; simp only [Z37, Z38, Z39, Z40, Z114, Z115, Z116, Z117]; with_reducible exact Bd.id ‹_› this
theorem vars_dp : ∀ (t : Tm) (o : List Vr) (D : Nat), t.dp ≤ D → (∀ v ∈ o, v.t.dp ≤ D) → ∀ v ∈ varsInto t o, v.t.dp ≤ D := by
 intro t
 have key : ∀ (w : Vr) (o : List Vr) (D : Nat), w.t.dp ≤ D → (∀ v ∈ o, v.t.dp ≤ D) → ∀ v ∈ (if memv w o then o else o ++ [w]), v.t.dp ≤ D := by
  intro w o D h ho v hv
  split at hv
  ·exact ho v hv
  ·rcases List.mem_append.mp hv with q | q
   ·exact ho v q
   ·simp at q; subst q; exact h
 induction t with
 | var x k t => intro o D h ho v hv; exact key ⟨x, k, t⟩ o D h ho v hv
 | con x t => intro o D h ho v hv; exact ho v hv
 | app f a ihf iha => intro o D h ho v hv; simp only [Z114, Z115, Z116, Z117] at h; exact iha _ D (by exact Bd.m2 h) (ihf o D (by exact Bd.m1 h) ho) v hv
 | lam x k t b ih =>
  intro o D h ho v hv
  simp only [Z114, Z115, Z116, Z117] at h
  exact ih _ D (by exact Bd.m2 h) (key ⟨x, k, t⟩ o D (by show t.dp ≤ D; exact Bd.m1 h) ho) v hv
theorem get_last2 (σ : Store) (a b : Cell) : (σ ++ [a, b])[σ.length + 1]? = some b := by simp
theorem get_last1 (σ : Store) (a b : Cell) : (σ ++ [a, b])[σ.length]? = some a := by simp
theorem set_last2 (σ : Store) (a b c : Cell) : (σ ++ [a, b]).set (σ.length + 1) c = σ ++ [a, c] := by
 rw [List.set_append_right _ _ (by lia)]; simp
theorem take_last2 (σ : Store) (a b : Cell) : (σ ++ [a, b]).take σ.length = σ := by simp
theorem app_two (σ : Store) (a b : Cell) : (σ ++ [a]) ++ [b] = σ ++ [a, b] := by simp
theorem call_with (ps : List Tp) (th : Th) (n : Nat) (σ : Store) (ht : MoTh th) (hp : ∀ p ∈ ps, p.2.dp ≤ 20) (hn : 200 ≤ n) : CF (n + 1) 25 [.d (.tuple (ps.map eTp)), .d (eTh th)] σ = ofTh σ (withTh ps th) := by
 obtain ⟨n, rfl⟩ := pos_of (n := n) (k := 0) (by exact Bd.lw hn rfl)
 have hll := ht.len
 show close σ.length (exSs G (CF (n + 1)) b25 [Dv (.tuple (ps.map eTp)), Dv (eTh th), none, none, none, none, none] σ) = _
 simp only [b25, ss_cons, s_newl, e_nil, kts_ok]
 rw [newlK_is 2 _ [] [] σ (by simp) rfl]
 simp only [EV, s_fors, idx_th0, idx_th1]
 have hlen : ∀ (hs : List Tm) (o : List Vr), (∀ h ∈ hs, Mo h) → (hs.foldl (fun o t => varsInto t o) o).length ≤ o.length + 500 * hs.length := by
  intro hs
  induction hs with
  | nil => intro o _; simp
  | cons h hs ih =>
   intro o hh
   have := ih (varsInto h o) fun q hq => hh q (List.mem_cons_of_mem _ hq)
   have := varsInto_len h o
   have := (hh h List.mem_cons_self).vs
   simp only [List.foldl_cons, List.length_cons]; lia
 have hfold := for_fold (body := exSs G (CF (n + 1)) [.expr (.call 14 [(.var 3), (.var 2)])]) (t := .var 3) eTm
  (fun a : List Vr × Option V => [Dv (.tuple (ps.map eTp)), Dv (eTh th), some (.loc σ.length), a.2, none, none, none]) (fun a => σ ++ [.lst (a.1.map eVr)]) (fun a h => (varsInto h a.1, Dv (eTm h)))
  (fun a r => (∀ h ∈ r, Mo h) ∧ a.1.length + 500 * r.length ≤ 60000) (pv := .d (.tuple (th.hs.map eTm))) (items := th.hs) (a := ([], none)) (.tuple _) ?_ ?_ ?_
 ·have key : ∀ (hs : List Tm) (a : List Vr × Option V), (hs.foldl (fun (a : List Vr × Option V) h => (varsInto h a.1, some (V.d (eTm h)))) a).1 = hs.foldl (fun o t => varsInto t o) a.1 := by
   intro hs
   induction hs with
   | nil => intro a; rfl
   | cons b bs ih => intro a; rw [List.foldl_cons, ih]; rfl
  have hkey := key th.hs ([], none)
  generalize hA : th.hs.foldl (fun (a : List Vr × Option V) h => (varsInto h a.1, some (V.d (eTm h)))) ([], none) = A at hfold hkey
  have h0 : (([] : List Vr), (none : Option V)).1 = [] := rfl
  simp only [List.map_nil] at hfold
  rw [hfold]
  have hAl : A.1.length ≤ 60000 := by
   have := hlen th.hs [] ht.hs
   rw [hkey]; simp at this ⊢; lia
  have hcv := call_vars_into th.c (n + 1) (σ ++ [.lst (A.1.map eVr)]) σ.length A.1 (by have := ht.c.dp; exact Bd.wkn this hn rfl) (by have := ht.c.dp; exact Bd.wk this rfl) (get_last σ _) (by have := ht.c.vs; exact Bd.sm hAl this rfl)
  simp only [EV, idx_th0, idx_th1, hcv, set_last, s_newl, kts_ok]
  rw [newlK_is 4 _ [] [] _ (by simp) rfl]
  have hseen : varsInto th.c A.1 = seenOf th := by rw [hkey]; rfl
  have hsl : (seenOf th).length ≤ 101000 := by
   rw [← hseen]
   have := varsInto_len th.c A.1
   have := ht.c.vs
   lia
  have hsd : ∀ v ∈ seenOf th, v.t.dp ≤ 60 := by
   have hf : ∀ (hs : List Tm) (o : List Vr), (∀ h ∈ hs, Mo h) → (∀ v ∈ o, v.t.dp ≤ 60) → ∀ v ∈ hs.foldl (fun o t => varsInto t o) o, v.t.dp ≤ 60 := by
    intro hs
    induction hs with
    | nil => intro o _ h; exact h
    | cons h hs ih => intro o hh ho; exact ih _ (fun q hq => hh q (List.mem_cons_of_mem _ hq)) (vars_dp h o 60 (hh h List.mem_cons_self).dp ho)
   exact vars_dp th.c _ 60 ht.c.dp (hf th.hs [] ht.hs fun _ h => nomatch h)
  rw [hseen, app_two]
  simp only [EV, List.length_append, s_fors]
  have hrel := rel_loc (body := exSs G (CF (n + 1)) [.assign (.var 6) (.call 16 [(.var 0), (.var 5)]), .ite (.cmp .mem (.var 6) (.var 4)) [.raise] [], .app 4 (.var 6)]) (t := .var 5) eVr (turnStep ps)
   (fun (o : List Vr) r fr s' => (∃ j1 j2, fr = [Dv (.tuple (ps.map eTp)), Dv (eTh th), some (.loc σ.length), A.2, some (.loc (σ.length + 1)), j1, j2]) ∧ s' = σ ++ [.lst ((seenOf th).map eVr), .lst (o.map eVr)] ∧ o.length + r.length ≤ 200000 ∧ ∀ v ∈ r, v.t.dp ≤ 60)
   (fun s' => s'.take σ.length = σ) (k := σ.length) (all := (seenOf th).map eVr) (fun a r fr s' h => by rw [h.2.1, get_last1]) ?_ (seenOf th) 0 (((seenOf th).map eVr).length + 1) [] [Dv (.tuple (ps.map eTp)), Dv (eTh th), some (.loc σ.length), A.2, some (.loc (σ.length + 1)), none, none] (σ ++ [.lst ((seenOf th).map eVr), .lst []]) (by simp) (by simp) ⟨⟨none, none, rfl⟩, rfl, by simp; exact Bd.wk hsl rfl, hsd⟩
  ·rw [forK_loc (get_last1 σ _ _)]
   unfold withTh
   cases hfo : foldO (turnStep ps) [] (seenOf th) with
   | none =>
    rw [hfo] at hrel
    obtain ⟨σ', h1, h2⟩ := hrel
    rw [h1]
    simp only [EV, Option.map_none, ofTh, h2]
   | some o =>
    rw [hfo] at hrel
    obtain ⟨fr', σ', h1, ⟨j1, j2, rfl⟩, rfl, _, _⟩ := hrel
    rw [h1]
    have hcomp : evE G (CF (n + 1)) (.comp 4 (.call 16 [(.var 0), (.var 8)]) (.var 8) (Qx 1 0) []) [Dv (.tuple (ps.map eTp)), Dv (eTh th), some (.loc σ.length), A.2, some (.loc (σ.length + 1)), j1, j2] (σ ++ [.lst ((seenOf th).map eVr), .lst (o.map eVr)]) =
      .ok (.d (.list ((th.hs.map (typesPut ps)).map eTm))) (σ ++ [.lst ((seenOf th).map eVr), .lst (o.map eVr)]) := by
     simp only [EV, e_comp, idx_th0]
     rw [compK_is (n := 4) eTm (fun h => some (eTm (typesPut ps h))) (items := th.hs) rfl (by simp only [lim]; exact Bd.wk hll rfl)]
     ·congr 3
      induction th.hs with
      | nil => rfl
      | cons a l ih => simp [ih]
     ·intro h hh
      have hct := call_types_put ps h (n + 1) (σ ++ [.lst ((seenOf th).map eVr), .lst (o.map eVr)]) (by have := (ht.hs h hh).dp; exact Bd.wkn this hn rfl)
      simp only [EV, List.replicate, List.cons_append, List.nil_append, asBool, if_true, hct]
    have hj := call_join n (σ ++ [.lst ((seenOf th).map eVr), .lst (o.map eVr)]) [] (th.hs.map (typesPut ps)) (.tuple []) (.list ((th.hs.map (typesPut ps)).map eTm)) rfl rfl (fun _ h => nomatch h) ?_ (by simp; exact Bd.wk hll rfl) (by exact Bd.fn hn rfl)
    ·have hct := call_types_put ps th.c (n + 1) (σ ++ [.lst ((seenOf th).map eVr), .lst (o.map eVr)]) (by have := ht.c.dp; exact Bd.wkn this hn rfl)
     simp only [EV, hcomp, hj, idx_th1, hct, take_last2, Option.map_some, ofTh]
     rfl
    ·intro q hq
     obtain ⟨h, hh, rfl⟩ := List.mem_map.mp hq
     have := typesPut_dp hp h
     have := (ht.hs h hh).dp
     exact ⟨by lia, by with_reducible exact Bd.t1 ‹_› this rfl⟩
  ·rintro o v r fr s' ⟨⟨j1, j2, rfl⟩, rfl, h3, h4⟩
   have hv := h4 v List.mem_cons_self
   simp only [List.length_cons] at h3
   refine ⟨[Dv (.tuple (ps.map eTp)), Dv (eTh th), some (.loc σ.length), A.2, some (.loc (σ.length + 1)), Dv (eVr v), j2], by simp only [EV, k1_ok], ?_⟩
   have hct := call_types_put_var ps v.x v.k v.t (n + 1) (σ ++ [.lst ((seenOf th).map eVr), .lst (o.map eVr)]) (by exact Bd.wkn hv hn rfl)
   have he : eVr v = .tuple [.str (st 3), .str (nm v.x v.k), eTy v.t] := rfl
   have hdp := tyPut_dp hp v.t
   have hc := mem_vr (x := v.x) (k := v.k) (t := tyPut ps v.t) o (by exact Bd.t1 hdp hv rfl)
   have hσ := get_last2 σ (.lst ((seenOf th).map eVr)) (.lst (o.map eVr))
   simp only [EV, he, hct, oq_dl _ _ hσ, hc]
   unfold turnStep
   have ht' : (⟨v.x, v.k, tyPut ps v.t⟩ : Vr) = turnV ps v := rfl
   rw [ht']
   cases hm : memv (turnV ps v) o with
   | true =>
    simp only [EV, if_true]
    exact ⟨_, rfl, take_last2 ..⟩
   | false =>
    simp only [EV, Bool.false_eq_true, if_false]
    rw [s_app _ rfl hσ]
    simp only [EV, appK_is _ hσ (show (o.map eVr).length ≤ lim by simp [lim]; lia), set_last2]
    refine ⟨_, _, rfl, ⟨_, _, rfl⟩, ?_, by simp; lia, fun w hw => h4 w (List.mem_cons_of_mem _ hw)⟩
    simp [turnV, eVr]
 ·intro k all _ h; cases h
 ·rintro ⟨o, w⟩ h r ⟨h1, h2⟩
  have hmo := h1 h List.mem_cons_self
  simp only [List.length_cons] at h2
  refine ⟨[Dv (.tuple (ps.map eTp)), Dv (eTh th), some (.loc σ.length), Dv (eTm h), none, none, none], by simp only [EV, k1_ok], ?_, ?_⟩
  ·have hcv := call_vars_into h (n + 1) (σ ++ [.lst (o.map eVr)]) σ.length o (by have := hmo.dp; exact Bd.wkn this hn rfl) (by have := hmo.dp; exact Bd.wk this rfl) (get_last σ _) (by have := hmo.vs; exact Bd.cy h2 this rfl)
   simp only [EV, hcv, set_last]
  ·have := varsInto_len h o
   have := hmo.vs
   exact ⟨fun q hq => h1 q (List.mem_cons_of_mem _ hq), by dsimp only; with_reducible exact Bd.cx h2 ‹_› this⟩
 ·exact ⟨ht.hs, by simp; lia⟩
inductive Stp where
 | refl (t : Tm) | assume (t : Tm) | beta (v : Vr) (t : Tm) | two (k : K2) (i j : Int) | abs (v : Vr) (i : Int)
 | inst (ps : List Pr) (i : Int) | insttype (ps : List Tp) (i : Int) | define (c : Cn) (t : Tm) | bad (i : Int)
noncomputable def eStp : Stp → PyData
 | .refl t => .tuple [.str (st 11), eTm t]
 | .assume t => .tuple [.str (st 12), eTm t]
 | .beta v t => .tuple [.str (st 16), eVr v, eTm t]
 | .two k i j => .tuple [.str (st k.i), .int i, .int j]
 | .abs v i => .tuple [.str (st 6), eVr v, .int i]
 | .inst ps i => .tuple [.str (st 17), .tuple (ps.map ePr), .int i]
 | .insttype ps i => .tuple [.str (st 18), .tuple (ps.map eTp), .int i]
 | .define c t => .tuple [.str (st 19), .str (st c.i), eTm t]
 | .bad i => .tuple [.str (st 32), .int i]
noncomputable def mapO {α β : Type} (g : α → Option β) : List α → Option (List β)
 | [] => some []
 | x :: xs => (g x).bind fun y => (mapO g xs).map (y :: ·)
theorem Z67 : mapO g ([]) = (some []) := rfl
theorem Z68 : mapO g (x :: xs) = ((g x).bind fun y => (mapO g xs).map (y :: ·)) := rfl
noncomputable def instTh (cs : Cs2) (ps : List Pr) (th : Th) : Option Th :=
 if ps.all (fun p => (checked cs p.2).isSome) then (mapO (putIn ps) th.hs).bind fun hs => (putIn ps th.c).map fun c => ⟨joinL [] hs, c⟩ else none
noncomputable def defTh (cs : Cs2) (c : Cn) (t : Tm) : Option (Th × Cs2) := (checked cs t).bind fun s =>
 if c.same .eq || (lookC c cs).isSome || decide (0 < (freeV t).length) || isOpen t then none else (typeOf (.con c s)).map fun s' => (⟨[], eqT s' (.con c s) t⟩, cs ++ [(c, s)])
noncomputable def keepC (cs : Cs2) : Option Th → Option (Th × Cs2)
 | some t => some (t, cs)
 | none => none
noncomputable def stepL (made : List Th) (cs : Cs2) : Stp → Option (Th × Cs2)
 | .refl t => keepC cs (oneTerm cs 11 ⟨.x, 0, .bool⟩ t)
 | .assume t => keepC cs (oneTerm cs 12 ⟨.x, 0, .bool⟩ t)
 | .beta v t => keepC cs (oneTerm cs 16 v t)
 | .two k i j => keepC cs ((getTh made i).bind fun l => (getTh made j).bind fun r => twoTh k l r)
 | .abs v i => keepC cs ((getTh made i).bind fun th => underTh v th)
 | .inst ps i => keepC cs ((getTh made i).bind fun th => instTh cs ps th)
 | .insttype ps i => keepC cs ((getTh made i).bind fun th => withTh ps th)
 | .define c t => defTh cs c t
 | .bad _ => none
noncomputable def runStep (s : List Th × Cs2) (x : Stp) : Option (List Th × Cs2) := (stepL s.1 s.2 x).map fun r => (s.1 ++ [r.1], r.2)
noncomputable def MoStp : Stp → Prop
 | .refl t => Mo t
 | .assume t => Mo t
 | .beta v t => Mo t ∧ v.t.dp ≤ 60
 | .two _ _ _ => True
 | .abs v _ => v.t.dp ≤ 60
 | .inst ps _ => (∀ p ∈ ps, Mo p.2 ∧ p.1.t.dp ≤ 60) ∧ ps.length ≤ 100
 | .insttype ps _ => ∀ p ∈ ps, p.2.dp ≤ 20
 | .define _ t => Mo t
 | .bad _ => True
noncomputable def Good : List Th × Cs2 → List Stp → Prop
 | _, [] => True
 | s, x :: r => MoStp x ∧ ∀ t, runStep s x = some t → (∀ th ∈ t.1, MoTh th) ∧ Good t r
theorem lookP_dp {v : Vr} {D : Nat} : ∀ {ps : List Pr} {s : Tm}, (∀ p ∈ ps, p.2.dp ≤ D) → lookP v ps = some s → s.dp ≤ D
 | [], s, _, h => by cases h
 | (w, u) :: r, s, hp, h => by
  (first | rw [Z93] at h | rw [Z94] at h)
  split at h
  ·cases h; exact hp (w, u) List.mem_cons_self
  ·exact lookP_dp (fun p hq => hp p (List.mem_cons_of_mem _ hq)) h
theorem put_dp (D : Nat) : ∀ (t : Tm) (ps : List Pr), t.dp ≤ D → (∀ p ∈ ps, p.2.dp ≤ D) → (put t ps).dp ≤ t.dp + D := by
 intro t
 induction t with
 | con x t => intro ps _ _; simp [Z33, Z34, Z35, Z36, Z114, Z115, Z116, Z117]
 | var x k t =>
  intro ps ht hp
  (first | rw [Z33] | rw [Z34] | rw [Z35] | rw [Z36])
  cases h : lookP ⟨x, k, t⟩ ps with
  | none => simp [Z114, Z115, Z116, Z117]
  | some s => have := lookP_dp hp h; simp [Z114, Z115, Z116, Z117]; lia
 | app f a ihf iha =>
  intro ps ht hp
  simp only [Z114, Z115, Z116, Z117] at ht
  (first | rw [Z33] | rw [Z34] | rw [Z35] | rw [Z36])
  split
  ·simp [Z114, Z115, Z116, Z117]
  ·have := ihf ps (by exact Bd.m1 ht) hp; have := iha ps (by exact Bd.m2 ht) hp
   simp only [Z114, Z115, Z116, Z117]; with_reducible exact Bd.id ‹_› this
 | lam x k t b ih =>
  intro ps ht hp
  simp only [Z114, Z115, Z116, Z117] at ht
  (first | rw [Z33] | rw [Z34] | rw [Z35] | rw [Z36])
  split
  ·simp [Z114, Z115, Z116, Z117]
  ·have hin : ∀ p ∈ innerOf ⟨x, k, t⟩ (freeV b) ps, p.2.dp ≤ D := fun p hq => hp p (inner_sub hq)
   split
   ·have := ih (innerOf ⟨x, k, t⟩ (freeV b) ps ++ [((⟨x, k, t⟩ : Vr), Tm.var x (freshK (namesOf (freeV b) (innerOf ⟨x, k, t⟩ (freeV b) ps)) x 900 k) t)]) (by exact Bd.m2 ht) (fun p hq => by
     rcases List.mem_append.mp hq with q | q
     ·exact hin p q
     ·simp at q; subst q; simp only [Z114, Z115, Z116, Z117]; exact Bd.m1 ht)
    simp only [Z114, Z115, Z116, Z117]; exact Bd.ix this
   ·have := ih (innerOf ⟨x, k, t⟩ (freeV b) ps) (by exact Bd.m2 ht) hin
    simp only [Z114, Z115, Z116, Z117]; exact Bd.ix this
theorem comp_mapE {β : Type} (enc : β → PyData) (g : β → Option PyData) {f : PyData → Store → Res (Option PyData)} {σ : Store} : ∀ (items : List β), (∀ x ∈ items, f (enc x) σ = match g x with | some y => .ok (some y) σ | none => .err σ) → compItems f (items.map enc) σ = match mapO g items with | some ys => .ok ys σ | none => .err σ
 | [], _ => rfl
 | x :: xs, h => by
  (rewrite [List.map_cons]; (first | rewrite [Z79] | rewrite [Z80]); rewrite [h x List.mem_cons_self]; (first | rw [Z67] | rw [Z68]))
  cases g x with
  | none => rfl
  | some y =>
   simp only [Res.bind_ok, Option.bind_some]
   rw [comp_mapE enc g xs fun y hy => h y (List.mem_cons_of_mem _ hy)]
   cases mapO g xs <;> rfl
theorem compK_isE {G : List PyData} {C : CallT} {fr : Frame} {σ : Store} {n : Nat} {elt : E} {t : Tg} {ifs : List E} {β : Type} (enc : β → PyData) (g : β → Option PyData) {items : List β} {d : PyData} (hd : itemsOf d = some (items.map enc)) (hl : items.length ≤ lim)
  (h : ∀ x ∈ items, ((Res.of σ (asg σ t (.d (enc x)) (fr ++ List.replicate n none))).bind fun fr' σ => (evAnd G C ifs fr' σ).bind fun b σ => (Res.of σ (asBool b)).bind fun b σ =>
      if b then (evE G C elt fr' σ).bind fun r σ => match r with
       | .d z => .ok (some z) σ
       | .loc _ => .stuck
      else .ok none σ) = match g x with | some y => .ok (some y) σ | none => .err σ) : compK G C n elt t ifs fr (.d d) σ = match mapO g items with | some ys => .ok (.d (.list ys)) σ | none => .err σ := by
 unfold compK
 dsimp only
 rw [hd, Res.of_some, Res.bind_ok, if_pos (by simpa using hl), comp_mapE enc g items h]
 cases mapO g items <;> rfl
theorem mapO_enc (g : Tm → Option Tm) : ∀ l : List Tm, mapO (fun x => (g x).map eTm) l = (mapO g l).map fun ys => ys.map eTm
 | [] => rfl
 | x :: xs => by
  ((first | rewrite [Z67] | rewrite [Z68]); (first | rewrite [Z67] | rewrite [Z68]); rw [mapO_enc g xs])
  cases g x with
  | none => rfl
  | some y => cases mapO g xs <;> rfl
theorem mapO_mem {α β : Type} {g : α → Option β} : ∀ {l : List α} {ys : List β}, mapO g l = some ys → ys.length = l.length ∧ ∀ y ∈ ys, ∃ x ∈ l, g x = some y
 | [], ys, h => by cases h; simp
 | x :: xs, ys, h => by
  (first | rw [Z67] at h | rw [Z68] at h)
  cases hx : g x with
  | none => rw [hx] at h; cases h
  | some y =>
   rw [hx] at h
   simp only [Option.bind_some, Option.map_eq_some_iff] at h
   obtain ⟨zs, hz, rfl⟩ := h
   obtain ⟨h1, h2⟩ := mapO_mem hz
   refine ⟨by simp [h1], fun w hw => ?_⟩
   rcases List.mem_cons.mp hw with rfl | hw
   ·exact ⟨x, List.mem_cons_self, hx⟩
   ·obtain ⟨u, hu, e⟩ := h2 w hw; exact ⟨u, List.mem_cons_of_mem _ hu, e⟩
noncomputable def setdK2 (n : Nat) (x : PyData) (fr : Frame) (k : V) (σ : Store) : XR := match k, σ[n]? with
    | .d (.str k), some (.dct kvs) => if (kvs.lookup k).isNone ∧ kvs.length ≤ lim then .next fr (σ.set n (.dct (kvs ++ [(k, x)]))) else .stuck
    | _, _ => .stuck
noncomputable def setdK (G : List PyData) (C : CallT) (k : E) (fr : Frame) (n : Nat) (v : V) (σ : Store) : XR := match v with
 | .d x => kt (setdK2 n x fr) (evE G C k fr σ)
 | _ => .stuck
theorem s_setd {G : List PyData} {C : CallT} {fr : Frame} {σ : Store} {i m : Nat} (k v : E) (h : fr[i]? = some (some (.loc m))) : exS G C (.setd i k v) fr σ = kt (setdK G C k fr m) (evE G C v fr σ) := by
 (first | rw [exx_assign, h] | rw [exx_newl, h] | rw [exx_newOf, h] | rw [exx_newd, h] | rw [exx_setd, h] | rw [exx_app, h] | rw [exx_expr, h] | rw [exx_ite, h] | rw [exx_whil, h] | rw [exx_fors, h] | rw [exx_forr, h] | rw [exx_ret, h] | rw [exx_raise, h] | rw [exx_tryv, h])
 unfold kt setdK
 congr 1
 funext v σ
 cases v <;> rfl
theorem setdK_d (G : List PyData) (C : CallT) (k : E) (fr : Frame) (n : Nat) (x : PyData) (σ : Store) : setdK G C k fr n (.d x) σ = kt (setdK2 n x fr) (evE G C k fr σ) := rfl
theorem setdK2_is {m : Nat} {x : PyData} {fr : Frame} {c : Cn} {σ : Store} {cs : Cs2} (h : σ[m]? = some (.dct (eCs cs))) (hl : lookC c cs = none) (hn : cs.length ≤ 1000) : setdK2 m x fr (.d (.str (st c.i))) σ = .next fr (σ.set m (.dct (eCs cs ++ [(st c.i, x)]))) := by
 unfold setdK2
 rw [h]
 dsimp only
 rw [if_pos]
 rw [look_eCs, hl]
 exact ⟨rfl, by simp only [eCs, List.length_map, lim]; exact Bd.wk hn rfl⟩
theorem s_newd {G : List PyData} {C : CallT} {fr : Frame} {σ : Store} {i : Nat} (h : i < fr.length) : exS G C (.newd i) fr σ = .next (fr.set i (some (.loc σ.length))) (σ ++ [.dct []]) := by (first | rw [exx_assign, if_pos h] | rw [exx_newl, if_pos h] | rw [exx_newOf, if_pos h] | rw [exx_newd, if_pos h] | rw [exx_setd, if_pos h] | rw [exx_app, if_pos h] | rw [exx_expr, if_pos h] | rw [exx_ite, if_pos h] | rw [exx_whil, if_pos h] | rw [exx_fors, if_pos h] | rw [exx_forr, if_pos h] | rw [exx_ret, if_pos h] | rw [exx_raise, if_pos h] | rw [exx_tryv, if_pos h])
theorem mem_tup3 (a b c d : Str) : cmpD .mem (.str a) (.tuple [.str b, .str c, .str d]) = some (.bool (b == a || (c == a || (d == a || false)))) := rfl
theorem mem_tup4 (a b c d e : Str) : cmpD .mem (.str a) (.tuple [.str b, .str c, .str d, .str e]) = some (.bool (b == a || (c == a || (d == a || (e == a || false))))) := rfl
noncomputable def cA : E := .cmp .mem (.var 4) (.tup [(Qs 11), (Qs 12), (Qs 16)])
noncomputable def brA : List S := [.assign (.var 5) (.call 22 [(.var 4), (.var 3), (.var 2)])]
noncomputable def cB : E := .cmp .mem (.var 4) (.tup [(Qs 15), (Qs 7), (Qs 14), (Qs 13)])
noncomputable def brB : List S := [.assign (.var 5) (.call 23 [(.var 4), (.call 21 [(.var 1), (Qx 3 1)]), (.call 21 [(.var 1), (Qx 3 2)])])]
noncomputable def cC : E := .cmp .eq (.var 4) (Qs 6)
noncomputable def brC : List S := [.assign (.var 5) (.call 24 [(Qx 3 1), (.call 21 [(.var 1), (Qx 3 2)])])]
noncomputable def cD : E := .cmp .eq (.var 4) (Qs 17)
noncomputable def brD : List S := [.assign (.var 6) (.call 21 [(.var 1), (Qx 3 2)]), .fors (.tup [(.var 7), (.var 8)]) (Qx 3 1) [.expr (.call 20 [(.var 2), (.var 8)])], .assign (.var 5) (.tup [(.call 12 [(.tup []), (.comp 4 (.call 7 [(Qx 3 1), (.var 11)]) (.var 11) (Qx 6 0) [])]), (.call 7 [(Qx 3 1), (Qx 6 1)])])]
noncomputable def cE : E := .cmp .eq (.var 4) (Qs 18)
noncomputable def brE : List S := [.assign (.var 5) (.call 25 [(Qx 3 1), (.call 21 [(.var 1), (Qx 3 2)])])]
noncomputable def cF : E := .cmp .eq (.var 4) (Qs 19)
noncomputable def brF : List S := [.assign (.var 9) (.call 20 [(.var 2), (Qx 3 2)]), .ite (.or [(.cmp .eq (Qx 3 1) (Qs 5)), (.dHas false (Qx 3 1) 2), (.cmp .gt (.len (.call 3 [(Qx 3 2)])) (Qi 0)), (.call 18 [(Qx 3 2)])]) [.raise] [], .setd 2 (Qx 3 1) (.var 9), .assign (.var 5) (.tup [(.tup []), (.call 8 [(.tup [(Qs 4), (Qx 3 1), (.var 9)]), (Qx 3 2)])])]
noncomputable def pbF : List S := [.ite cF brF [.raise]]
noncomputable def pbE : List S := [.ite cE brE pbF]
noncomputable def pbD : List S := [.ite cD brD pbE]
noncomputable def pbC : List S := [.ite cC brC pbD]
noncomputable def pbB : List S := [.ite cB brB pbC]
noncomputable def pbA : List S := [.ite cA brA pbB]
noncomputable def pb : List S := [.assign (.var 4) (Qx 3 0), .ite cA brA pbB, .app 1 (.var 5)]
theorem b26_is : b26 = [.newl 1 [], .newd 2, .fors (.var 3) (.var 0) pb, .ret (.var 1)] := rfl
noncomputable abbrev P2 (σ : Store) (s : List Th × Cs2) : Store := σ ++ [.lst (s.1.map eTh), .dct (eCs s.2)]
theorem p2_made (σ : Store) (s : List Th × Cs2) : (P2 σ s)[σ.length]? = some (.lst (s.1.map eTh)) := get_last1 ..
theorem p2_cs (σ : Store) (s : List Th × Cs2) : (P2 σ s)[σ.length + 1]? = some (.dct (eCs s.2)) := get_last2 ..
theorem p2_set (σ : Store) (s : List Th × Cs2) (c : Cell) : (P2 σ s).set σ.length c = σ ++ [c, .dct (eCs s.2)] := by
 unfold P2; rw [List.set_append_right _ _ (Nat.le_refl _)]; simp
theorem p2_set2 (σ : Store) (s : List Th × Cs2) (c : Cell) : (P2 σ s).set (σ.length + 1) c = σ ++ [.lst (s.1.map eTh), c] := set_last2 ..
theorem p2_take (σ : Store) (s : List Th × Cs2) : (P2 σ s).take σ.length = σ := take_last2 ..
theorem turn_end (n : Nat) (σ : Store) (s : List Th × Cs2) (th : Th) (proof : PyData) (j3 j4 j6 j7 j8 j9 : Option V) (hl : s.1.length ≤ 500) :
  (exS G (CF n) (.app 1 (.var 5)) [Dv proof, some (.loc σ.length), some (.loc (σ.length + 1)), j3, j4, Dv (eTh th), j6, j7, j8, j9] (P2 σ s)).andThen (exSs G (CF n) []) =
   .next [Dv proof, some (.loc σ.length), some (.loc (σ.length + 1)), j3, j4, Dv (eTh th), j6, j7, j8, j9] (P2 σ (s.1 ++ [th], s.2)) := by
 rw [s_app _ rfl (p2_made σ s)]
 simp only [EV, appK_is _ (p2_made σ s) (show (s.1.map eTh).length ≤ lim by simp [lim]; exact Bd.wk hl rfl), p2_set]
 simp only [P2, List.map_append, List.map_cons, List.map_nil]
theorem getTh_mem {made : List Th} {i : Int} {th : Th} (h : getTh made i = some th) : th ∈ made := by
 unfold getTh at h
 split at h
 ·cases h
 ·exact List.mem_of_getElem? h
theorem an_nil {C : CallT} (r : XR) : r.andThen (exSs G C []) = r := by cases r <;> rfl
theorem ite_t {C : CallT} {fr : Frame} {σ : Store} {c : E} {a b : List S} (h : evE G C c fr σ = .ok (.d (.bool true)) σ) : exSs G C [.ite c a b] fr σ = exSs G C a fr σ := by rw [ss_ite, h, kI_t]; exact an_nil _
theorem ite_f {C : CallT} {fr : Frame} {σ : Store} {c : E} {a b : List S} (h : evE G C c fr σ = .ok (.d (.bool false)) σ) : exSs G C [.ite c a b] fr σ = exSs G C b fr σ := by rw [ss_ite, h, kI_f]; exact an_nil _
theorem disp {C : CallT} {τ : Store} {x : Str} {r : List PyData} {a0 a1 a2 j4 j5 j6 j7 j8 j9 : Option V} {b : List S} (h : exSs G C pbA [a0, a1, a2, Dv (.tuple (.str x :: r)), Dv (.str x), j5, j6, j7, j8, j9] τ = exSs G C b [a0, a1, a2, Dv (.tuple (.str x :: r)), Dv (.str x), j5, j6, j7, j8, j9] τ) :
  exSs G C pb [a0, a1, a2, Dv (.tuple (.str x :: r)), j4, j5, j6, j7, j8, j9] τ = (exSs G C b [a0, a1, a2, Dv (.tuple (.str x :: r)), Dv (.str x), j5, j6, j7, j8, j9] τ).andThen (exSs G C [.app 1 (.var 5)]) := by
 rw [← h]
 show (exS G C (.ite cA brA pbB) _ τ).andThen _ = ((exS G C (.ite cA brA pbB) _ τ).andThen (exSs G C [])).andThen _
 rw [an_nil]
inductive F7 (σ : Store) (proof : PyData) : Frame → Prop
 | mk (k3 k4 k5 k6 k7 k8 k9 : Option V) : F7 σ proof [Dv proof, some (.loc σ.length), some (.loc (σ.length + 1)), k3, k4, k5, k6, k7, k8, k9]
noncomputable def TR (σ : Store) (proof : PyData) (o : Option (List Th × Cs2)) (r : XR) : Prop := match o with
 | some t => ∃ fr, r = .next fr (P2 σ t) ∧ F7 σ proof fr
 | none => ∃ σ', r = .err σ' ∧ σ'.take σ.length = σ
theorem fin_err {C : CallT} {σ : Store} {proof : PyData} {s : List Th × Cs2} {r : XR} (h : r = .err (P2 σ s)) : TR σ proof none (r.andThen (exSs G C [.app 1 (.var 5)])) := by rw [h]; exact ⟨P2 σ s, rfl, p2_take σ s⟩
theorem fin_next {n : Nat} {σ : Store} {proof : PyData} {s : List Th × Cs2} {r : XR} {th : Th} {k3 k4 k6 k7 k8 k9 : Option V} (hl : s.1.length ≤ 500) (h : r = .next [Dv proof, some (.loc σ.length), some (.loc (σ.length + 1)), k3, k4, Dv (eTh th), k6, k7, k8, k9] (P2 σ s)) : TR σ proof (some (s.1 ++ [th], s.2)) (r.andThen (exSs G (CF n) [.app 1 (.var 5)])) := by
 rw [h]; exact ⟨_, turn_end n σ s th proof k3 k4 k6 k7 k8 k9 hl, .mk ..⟩
theorem fin_th {n : Nat} {σ : Store} {proof : PyData} {s : List Th × Cs2} {o : Option Th} {r : XR} {k3 k4 k5 k6 k7 k8 k9 : Option V} (hl : s.1.length ≤ 500) (h : r = kA (exSs G (CF n) []) (.var 5) [Dv proof, some (.loc σ.length), some (.loc (σ.length + 1)), k3, k4, k5, k6, k7, k8, k9] (ofTh (P2 σ s) o)) : TR σ proof ((keepC s.2 o).map fun r => (s.1 ++ [r.1], r.2)) (r.andThen (exSs G (CF n) [.app 1 (.var 5)])) := by
 cases o with
 | none => exact fin_err h
 | some th => exact fin_next hl h
theorem turn_ok (n : Nat) (hn : 400 ≤ n) (σ : Store) (proof : PyData) (s : List Th × Cs2) (x : Stp) (j4 j5 j6 j7 j8 j9 : Option V) (hx : MoStp x) (hm : ∀ th ∈ s.1, MoTh th) (hl : s.1.length ≤ 500) (hc : s.2.length ≤ 500) :
  TR σ proof (runStep s x) (exSs G (CF (n + 1)) pb [Dv proof, some (.loc σ.length), some (.loc (σ.length + 1)), Dv (eStp x), j4, j5, j6, j7, j8, j9] (P2 σ s)) := by
 have hth := fun i => call_theorem n (P2 σ s) σ.length s.1 i (p2_made σ s) (by exact Bd.wk hl rfl)
 cases x with
 | refl t =>
  have h1 := call_refl s.2 t n (P2 σ s) (σ.length + 1) hx (by exact Bd.lw hn rfl) (p2_cs σ s)
  show TR σ proof _ (exSs G (CF (n + 1)) pb [Dv proof, some (.loc σ.length), some (.loc (σ.length + 1)), Dv (.tuple (.str (st 11) :: _)), j4, j5, j6, j7, j8, j9] (P2 σ s))
  rw [disp (ite_t (by simp only [EV, cA, mem_tup3, mem_tup4, Bool.true_or, Bool.false_or]))]
  exact fin_th (k3 := Dv (.tuple [.str (st 11), eTm t])) (k4 := Dv (.str (st 11))) (k5 := j5) (k6 := j6) (k7 := j7) (k8 := j8) (k9 := j9) hl (by simp only [EV, brA, h1])
 | assume t =>
  have h1 := call_assume s.2 t n (P2 σ s) (σ.length + 1) hx (by exact Bd.lw hn rfl) (p2_cs σ s)
  show TR σ proof _ (exSs G (CF (n + 1)) pb [Dv proof, some (.loc σ.length), some (.loc (σ.length + 1)), Dv (.tuple (.str (st 12) :: _)), j4, j5, j6, j7, j8, j9] (P2 σ s))
  rw [disp (ite_t (by simp only [EV, cA, mem_tup3, mem_tup4, Bool.true_or, Bool.false_or]))]
  exact fin_th (k3 := Dv (.tuple [.str (st 12), eTm t])) (k4 := Dv (.str (st 12))) (k5 := j5) (k6 := j6) (k7 := j7) (k8 := j8) (k9 := j9) hl (by simp only [EV, brA, h1])
 | beta v t =>
  have h1 := call_beta s.2 v t n (P2 σ s) (σ.length + 1) hx.1 hx.2 (by exact Bd.lw hn rfl) (p2_cs σ s)
  show TR σ proof _ (exSs G (CF (n + 1)) pb [Dv proof, some (.loc σ.length), some (.loc (σ.length + 1)), Dv (.tuple (.str (st 16) :: _)), j4, j5, j6, j7, j8, j9] (P2 σ s))
  rw [disp (ite_t (by simp only [EV, cA, mem_tup3, mem_tup4, Bool.true_or, Bool.false_or]))]
  exact fin_th (k3 := Dv (.tuple [.str (st 16), eVr v, eTm t])) (k4 := Dv (.str (st 16))) (k5 := j5) (k6 := j6) (k7 := j7) (k8 := j8) (k9 := j9) hl (by simp only [EV, brA, h1])
 | two k i j =>
  show TR σ proof _ (exSs G (CF (n + 1)) pb [Dv proof, some (.loc σ.length), some (.loc (σ.length + 1)), Dv (.tuple (.str (st k.i) :: [.int i, .int j])), j4, j5, j6, j7, j8, j9] (P2 σ s))
  have hd : ∀ (a0 a1 a2 a3 : Option V) (τ : Store), exSs G (CF (n + 1)) pbA [a0, a1, a2, a3, Dv (.str (st k.i)), j5, j6, j7, j8, j9] τ = exSs G (CF (n + 1)) brB [a0, a1, a2, a3, Dv (.str (st k.i)), j5, j6, j7, j8, j9] τ := fun a0 a1 a2 a3 τ => by
   cases k <;> exact ((ite_f (by simp only [EV, K2.i, cA, mem_tup3, mem_tup4, Bool.true_or, Bool.false_or])).trans (ite_t (by simp only [EV, K2.i, cB, mem_tup3, mem_tup4, Bool.true_or, Bool.false_or])))
  rw [disp (hd ..)]
  refine fin_th (k3 := Dv (.tuple [.str (st k.i), .int i, .int j])) (k4 := Dv (.str (st k.i))) (k5 := j5) (k6 := j6) (k7 := j7) (k8 := j8) (k9 := j9) hl ?_
  cases h1 : getTh s.1 i with
  | none => simp only [EV, brB, hth, h1, ofTh, Option.bind_none]
  | some l =>
   cases h2 : getTh s.1 j with
   | none => simp only [EV, brB, hth, h1, h2, ofTh, Option.bind_none, Option.bind_some]
   | some r =>
    have hc2 := call_two k l r n (P2 σ s) (hm l (getTh_mem h1)) (hm r (getTh_mem h2)) (by exact Bd.lw hn rfl)
    simp only [EV, brB, hth, h1, h2, ofTh, hc2, Option.bind_some]
 | abs v i =>
  show TR σ proof _ (exSs G (CF (n + 1)) pb [Dv proof, some (.loc σ.length), some (.loc (σ.length + 1)), Dv (.tuple (.str (st 6) :: _)), j4, j5, j6, j7, j8, j9] (P2 σ s))
  rw [disp ((ite_f (by simp only [EV, cA, mem_tup3, mem_tup4, Bool.true_or, Bool.false_or])).trans ((ite_f (by simp only [EV, cB, mem_tup3, mem_tup4, Bool.true_or, Bool.false_or])).trans (ite_t (by simp only [EV, cC, mem_tup3, mem_tup4, Bool.true_or, Bool.false_or]))))]
  refine fin_th (k3 := Dv (.tuple [.str (st 6), eVr v, .int i])) (k4 := Dv (.str (st 6))) (k5 := j5) (k6 := j6) (k7 := j7) (k8 := j8) (k9 := j9) hl ?_
  cases h1 : getTh s.1 i with
  | none => simp only [EV, brC, hth, h1, ofTh, Option.bind_none]
  | some l =>
   have hc2 := call_under v l n (P2 σ s) (hm l (getTh_mem h1)) hx (by exact Bd.lw hn rfl)
   simp only [EV, brC, hth, h1, ofTh, hc2, Option.bind_some]
 | insttype ps i =>
  show TR σ proof _ (exSs G (CF (n + 1)) pb [Dv proof, some (.loc σ.length), some (.loc (σ.length + 1)), Dv (.tuple (.str (st 18) :: _)), j4, j5, j6, j7, j8, j9] (P2 σ s))
  rw [disp ((ite_f (by simp only [EV, cA, mem_tup3, mem_tup4, Bool.true_or, Bool.false_or])).trans ((ite_f (by simp only [EV, cB, mem_tup3, mem_tup4, Bool.true_or, Bool.false_or])).trans ((ite_f (by simp only [EV, cC, mem_tup3, mem_tup4, Bool.true_or, Bool.false_or])).trans ((ite_f (by simp only [EV, cD, mem_tup3, mem_tup4, Bool.true_or, Bool.false_or])).trans (ite_t (by simp only [EV, cE, mem_tup3, mem_tup4, Bool.true_or, Bool.false_or]))))))]
  refine fin_th (k3 := Dv (.tuple [.str (st 18), .tuple (ps.map eTp), .int i])) (k4 := Dv (.str (st 18))) (k5 := j5) (k6 := j6) (k7 := j7) (k8 := j8) (k9 := j9) hl ?_
  cases h1 : getTh s.1 i with
  | none => simp only [EV, brE, hth, h1, ofTh, Option.bind_none]
  | some l =>
   have hc2 := call_with ps l n (P2 σ s) (hm l (getTh_mem h1)) hx (by exact Bd.lw hn rfl)
   simp only [EV, brE, hth, h1, ofTh, hc2, Option.bind_some]
 | define c t =>
  have hx' : Mo t := hx
  have hd := hx'.dp
  have h1 := call_checked s.2 t (n + 1) (P2 σ s) (σ.length + 1) (by lia) (by exact Bd.wk hd rfl) (p2_cs σ s)
  have h2 := call_free t (n + 1) (P2 σ s) (by lia) (by exact Bd.wk hd rfl) (by have := hx'.sz; exact Bd.wk this rfl)
  have h3 := call_is_open t (n + 1) (P2 σ s) (by lia)
  have hfl := freeInto_len t [] []
  have hlen : lenOp (.list ((freeV t).map eVr)) = some (.int (freeV t).length) := by
   rw [len_list _ (by have := hx'.sz; simp only [List.length_nil, Nat.zero_add] at hfl; simp only [List.length_map, lim]; show (freeInto t [] []).length ≤ _; lia)]; simp
  have hgt : decide ((0 : Int) < ((freeV t).length : Int)) = decide (0 < (freeV t).length) := by simp
  show TR σ proof ((defTh s.2 c t).map fun r => (s.1 ++ [r.1], r.2)) (exSs G (CF (n + 1)) pb [Dv proof, some (.loc σ.length), some (.loc (σ.length + 1)), Dv (.tuple (.str (st 19) :: [.str (st c.i), eTm t])), j4, j5, j6, j7, j8, j9] (P2 σ s))
  rw [disp ((ite_f (by simp only [EV, cA, mem_tup3, mem_tup4, Bool.true_or, Bool.false_or])).trans ((ite_f (by simp only [EV, cB, mem_tup3, mem_tup4, Bool.true_or, Bool.false_or])).trans ((ite_f (by simp only [EV, cC, mem_tup3, mem_tup4, Bool.true_or, Bool.false_or])).trans ((ite_f (by simp only [EV, cD, mem_tup3, mem_tup4, Bool.true_or, Bool.false_or])).trans ((ite_f (by simp only [EV, cE, mem_tup3, mem_tup4, Bool.true_or, Bool.false_or])).trans (ite_t (by simp only [EV, cF, mem_tup3, mem_tup4, Bool.true_or, Bool.false_or])))))))]
  unfold defTh
  cases hch : checked s.2 t with
  | none => exact fin_err (s := s) (by simp only [EV, brF, h1, hch, ofTy])
  | some ty =>
   rw [Option.bind_some]
   have htyd : ty.dp ≤ 60 := by
    unfold checked at hch
    split at hch
    ·have := typeOf_dp hch; lia
    ·cases hch
   have hdh := dHasK_is (ng := false) (m := σ.length + 1) (x := c) (σ := P2 σ s) (cs := s.2) (p2_cs σ s)
   cases q1 : c.same .eq with
   | true => exact fin_err (s := s) (by simp only [EV, brF, h1, hch, ofTy, cn_st, q1])
   | false =>
   cases q2 : lookC c s.2 with
   | some u => exact fin_err (s := s) (by simp only [EV, brF, h1, hch, ofTy, cn_st, q1, e_dHas, hdh, q2, Option.isSome_some, Bool.false_bne])
   | none =>
   cases q3 : decide (0 < (freeV t).length) with
   | true => exact fin_err (s := s) (by simp only [EV, brF, h1, hch, ofTy, cn_st, q1, e_dHas, hdh, q2, Option.isSome_none, Bool.false_bne, h2, hlen, cmp_gt, hgt, q3])
   | false =>
   cases q4 : isOpen t with
   | true => exact fin_err (s := s) (by simp only [EV, brF, h1, hch, ofTy, cn_st, q1, e_dHas, hdh, q2, Option.isSome_none, Bool.false_bne, h2, hlen, cmp_gt, hgt, q3, h3, q4])
   | false =>
    have hty : typeOf (.con c ty) = some ty := by simp [Z73, Z74, Z75, Z76, q1]
    have hset := setdK2_is (m := σ.length + 1) (x := eTy ty) (fr := [Dv proof, some (.loc σ.length), some (.loc (σ.length + 1)), Dv (.tuple [.str (st 19), .str (st c.i), eTm t]), Dv (.str (st 19)), j5, j6, j7, j8, Dv (eTy ty)]) (c := c) (σ := P2 σ s) (cs := s.2) (p2_cs σ s) q2 (by exact Bd.wk hc rfl)
    have he := call_eq (n + 1) (P2 σ (s.1, s.2 ++ [(c, ty)])) (.con c ty) t (by simp only [Z114, Z115, Z116, Z117]; lia) (by simp only [Z114, Z115, Z116, Z117]; exact Bd.wk htyd rfl)
    rw [hty] at he
    simp only [Option.map_some, ofTm, Z63, Z64, Z65, Z66] at he
    have hP : σ ++ [.lst (s.1.map eTh), .dct (eCs s.2 ++ [(st c.i, eTy ty)])] = P2 σ (s.1, s.2 ++ [(c, ty)]) := by simp [P2, eCs]
    simp only [Bool.false_or, Option.isSome_none, Bool.or_self, Bool.false_eq_true, if_false, hty, Option.map_some]
    refine fin_next (s := (s.1, s.2 ++ [(c, ty)])) hl (k3 := Dv (.tuple [.str (st 19), .str (st c.i), eTm t])) (k4 := Dv (.str (st 19))) (k6 := j6) (k7 := j7) (k8 := j8) (k9 := Dv (eTy ty)) ?_
    simp only [EV, brF, h1, hch, ofTy, cn_st, q1, e_dHas, hdh, q2, Option.isSome_none, Bool.false_bne, h2, hlen, cmp_gt, hgt, q3, h3, q4]
    rw [s_setd _ _ rfl]
    simp only [EV, setdK_d, hset, p2_set2, hP, he]
    rfl
 | inst ps i =>
  obtain ⟨hps, hpl⟩ := hx
  show TR σ proof ((keepC s.2 ((getTh s.1 i).bind fun th => instTh s.2 ps th)).map fun r => (s.1 ++ [r.1], r.2)) (exSs G (CF (n + 1)) pb [Dv proof, some (.loc σ.length), some (.loc (σ.length + 1)), Dv (.tuple (.str (st 17) :: [.tuple (ps.map ePr), .int i])), j4, j5, j6, j7, j8, j9] (P2 σ s))
  rw [disp ((ite_f (by simp only [EV, cA, mem_tup3, mem_tup4, Bool.true_or, Bool.false_or])).trans ((ite_f (by simp only [EV, cB, mem_tup3, mem_tup4, Bool.true_or, Bool.false_or])).trans ((ite_f (by simp only [EV, cC, mem_tup3, mem_tup4, Bool.true_or, Bool.false_or])).trans (ite_t (by simp only [EV, cD, mem_tup3, mem_tup4, Bool.true_or, Bool.false_or])))))]
  cases h1 : getTh s.1 i with
  | none => exact fin_err (s := s) (by simp only [EV, brD, hth, h1, ofTh])
  | some l =>
   have hml := hm l (getTh_mem h1)
   have hll := hml.len
   simp only [Option.bind_some, instTh]
   have hput : ∀ t, Mo t → CF (n + 1) 7 [.d (.tuple (ps.map ePr)), .d (eTm t)] (P2 σ s) = ofTm (P2 σ s) (putIn ps t) := fun t ht =>
    call_put_in 60 (n + 1) (P2 σ s) ps t 100 ⟨ht.dp, by lia, by have := ht.dp; lia, by have := ht.sz; exact Bd.wk this rfl, fun p hp => ⟨(hps p hp).1.dp, (hps p hp).2, (hps p hp).1.sz, (hps p hp).1.pk⟩, by have := ht.dp; exact Bd.sm hpl this rfl, ht.pk, by have := ht.dp; lia⟩ (by have := ht.dp; lia) (.tuple (ps.map ePr)) rfl
   have start : exSs G (CF (n + 1)) pb [Dv proof, some (.loc σ.length), some (.loc (σ.length + 1)), Dv (eStp (.inst ps i)), j4, j5, j6, j7, j8, j9] (P2 σ s) =
     exSs G (CF (n + 1)) pb [Dv proof, some (.loc σ.length), some (.loc (σ.length + 1)), Dv (.tuple [.str (st 17), .tuple (ps.map ePr), .int i]), j4, j5, j6, j7, j8, j9] (P2 σ s) := rfl
   refine Exists.elim (for_check (body := exSs G (CF (n + 1)) [.expr (.call 20 [(.var 2), (.var 8)])]) (t := .tup [.var 7, .var 8]) (σ := P2 σ s) ePr (fun p => (checked s.2 p.2).isSome)
    (fun fr => ∃ a b, fr = [Dv proof, some (.loc σ.length), some (.loc (σ.length + 1)), Dv (.tuple [.str (st 17), .tuple (ps.map ePr), .int i]), Dv (.str (st 17)), j5, Dv (eTh l), a, b, j9]) (d := .tuple (ps.map ePr)) (items := ps) rfl
    (fr := [Dv proof, some (.loc σ.length), some (.loc (σ.length + 1)), Dv (.tuple [.str (st 17), .tuple (ps.map ePr), .int i]), Dv (.str (st 17)), j5, Dv (eTh l), j7, j8, j9]) ⟨j7, j8, rfl⟩ ?_) ?_
   ·rintro fr p hp ⟨a, b, rfl⟩
    have hmo := (hps p hp).1
    have hck := call_checked s.2 p.2 (n + 1) (P2 σ s) (σ.length + 1) (by have := hmo.dp; lia) (by have := hmo.dp; exact Bd.wk this rfl) (p2_cs σ s)
    refine ⟨[Dv proof, some (.loc σ.length), some (.loc (σ.length + 1)), Dv (.tuple [.str (st 17), .tuple (ps.map ePr), .int i]), Dv (.str (st 17)), j5, Dv (eTh l), Dv (eVr p.1), Dv (eTm p.2), j9], by simp only [EV, ePr], ?_⟩
    cases hc : checked s.2 p.2 with
    | none => simp only [EV, Option.isSome_none, Bool.false_eq_true, if_false, hck, hc, ofTy]
    | some ty =>
     rw [if_pos (by rfl)]
     exact ⟨_, ⟨Dv (eVr p.1), Dv (eTm p.2), rfl⟩, by simp only [EV, hck, hc, ofTy]⟩
   ·rintro fr' ⟨⟨a, b, rfl⟩, hk⟩
    have hcomp : evE G (CF (n + 1)) (.comp 4 (.call 7 [(Qx 3 1), (.var 11)]) (.var 11) (Qx 6 0) []) [Dv proof, some (.loc σ.length), some (.loc (σ.length + 1)), Dv (.tuple [.str (st 17), .tuple (ps.map ePr), .int i]), Dv (.str (st 17)), j5, Dv (eTh l), a, b, j9] (P2 σ s) =
      match mapO (putIn ps) l.hs with | some ys => .ok (.d (.list (ys.map eTm))) (P2 σ s) | none => .err (P2 σ s) := by
     simp only [EV, e_comp, idx_th0]
     rw [compK_isE (n := 4) eTm (fun h => (putIn ps h).map eTm) (items := l.hs) rfl (by simp only [lim]; exact Bd.wk hll rfl)]
     ·rw [mapO_enc]
      cases mapO (putIn ps) l.hs <;> rfl
     ·intro h hh
      have hct := hput h (hml.hs h hh)
      simp only [EV, List.replicate, List.cons_append, List.nil_append, asBool, if_true, hct]
      cases putIn ps h <;> rfl
    cases hall : ps.all (fun p => (checked s.2 p.2).isSome) with
    | false =>
     rw [hall] at hk
     refine fin_err (s := s) ?_
     simp only [EV, brD, hth, h1, ofTh, s_fors, hk, Bool.false_eq_true, if_false]
    | true =>
     rw [hall] at hk
     simp only [if_true]
     simp only [if_true] at hk
     cases hmo : mapO (putIn ps) l.hs with
     | none =>
      rw [hmo] at hcomp
      refine fin_err (s := s) ?_
      simp only [EV, brD, hth, h1, ofTh, s_fors, hk, hcomp]
     | some ys =>
      rw [hmo] at hcomp
      obtain ⟨m1, m2⟩ := mapO_mem hmo
      have hj := call_join n (P2 σ s) [] ys (.tuple []) (.list (ys.map eTm)) rfl rfl (fun _ h => nomatch h) ?_ (by simp; lia) (by exact Bd.lw hn rfl)
      ·have hpc := hput l.c hml.c
       simp only [Option.bind_some]
       cases hpi : putIn ps l.c with
       | none =>
        refine fin_err (s := s) ?_
        simp only [EV, brD, hth, h1, ofTh, s_fors, hk, hcomp, hj, idx_th1, hpc, hpi, ofTm]
       | some c' =>
        refine fin_next (s := s) (th := ⟨joinL [] ys, c'⟩) hl (k3 := Dv (.tuple [.str (st 17), .tuple (ps.map ePr), .int i])) (k4 := Dv (.str (st 17))) (k6 := Dv (eTh l)) (k7 := a) (k8 := b) (k9 := j9) ?_
        simp only [EV, brD, hth, h1, ofTh, s_fors, hk, hcomp, hj, idx_th1, hpc, hpi, ofTm]
        rfl
      ·intro q hq
       obtain ⟨h, hh, he⟩ := m2 q hq
       unfold putIn at he
       split at he
       ·cases he
        have hd := (hml.hs h hh).dp
        have := put_dp 60 h ps hd fun p hp => (hps p hp).1.dp
        exact ⟨by exact Bd.t3 this hd hn rfl, by exact Bd.t1 this hd rfl⟩
       ·cases he
 | bad i =>
  show TR σ proof none (exSs G (CF (n + 1)) pb [Dv proof, some (.loc σ.length), some (.loc (σ.length + 1)), Dv (.tuple (.str (st 32) :: [.int i])), j4, j5, j6, j7, j8, j9] (P2 σ s))
  rw [disp ((ite_f (by simp only [EV, cA, mem_tup3, mem_tup4, Bool.true_or, Bool.false_or])).trans ((ite_f (by simp only [EV, cB, mem_tup3, mem_tup4, Bool.true_or, Bool.false_or])).trans ((ite_f (by simp only [EV, cC, mem_tup3, mem_tup4, Bool.true_or, Bool.false_or])).trans ((ite_f (by simp only [EV, cD, mem_tup3, mem_tup4, Bool.true_or, Bool.false_or])).trans ((ite_f (by simp only [EV, cE, mem_tup3, mem_tup4, Bool.true_or, Bool.false_or])).trans (ite_f (by simp only [EV, cF, mem_tup3, mem_tup4, Bool.true_or, Bool.false_or])))))))]
  exact fin_err (s := s) rfl
inductive PV (σ : Store) (proof : PyData) (s : List Th × Cs2) (r : List Stp) : Frame → Store → Prop
 | mk {fr : Frame} (f : F7 σ proof fr) (hg : Good s r) (hm : ∀ th ∈ s.1, MoTh th) (h1 : s.1.length + r.length ≤ 400) (h2 : s.2.length + r.length ≤ 400) : PV σ proof s r fr (P2 σ s)
theorem call_prove (n : Nat) (hn : 400 ≤ n) (σ : Store) (steps : List Stp) (hl : steps.length ≤ 400) (hg : Good ([], []) steps) :
  CF (n + 2) 26 [.d (.tuple (steps.map eStp))] σ = match foldO runStep ([], []) steps with | some t => .ok (.d (.list (t.1.map eTh))) σ | none => .err σ := by
 show close σ.length (exSs G (CF (n + 1)) b26 [Dv (.tuple (steps.map eStp)), none, none, none, none, none, none, none, none, none] σ) = _
 rw [b26_is]
 simp only [ss_cons, s_newl, e_nil, kts_ok]
 rw [newlK_is 1 _ [] [] σ (by simp) rfl]
 simp only [EV, k1_ok]
 rw [s_newd (by simp), app_two]
 simp only [EV, List.length_append, s_fors, forK_tuple]
 have hrel := rel_items (body := exSs G (CF (n + 1)) pb) (t := .var 3) eStp runStep
  (fun (s : List Th × Cs2) r fr s' => PV σ (.tuple (steps.map eStp)) s r fr s')
  (fun s' => s'.take σ.length = σ) ?_ steps ([], []) [Dv (.tuple (steps.map eStp)), some (.loc σ.length), some (.loc (σ.length + 1)), none, none, none, none, none, none, none] (σ ++ [.lst [], .dct []]) (.mk (.mk none none none none none none none) hg (fun th h => by cases h) (by simpa using hl) (by simpa using hl))
 ·cases hf : foldO runStep ([], []) steps with
  | none =>
   rw [hf] at hrel
   obtain ⟨σ', h1, h2⟩ := hrel
   rw [h1]
   simp only [EV, h2]
  | some t =>
   rw [hf] at hrel
   obtain ⟨fr', σ', h1, hpv⟩ := hrel
   obtain ⟨⟨k3, k4, k5, k6, k7, k8, k9⟩, _, _, _, _⟩ := hpv
   rw [h1]
   simp only [EV, k1_ok]
   have hget := p2_made σ t
   unfold close
   dsimp only
   rw [if_neg (Nat.lt_irrefl _), hget]
   simp only [p2_take]
 ·rintro s x r fr s' ⟨⟨k3, k4, k5, k6, k7, k8, k9⟩, hg, hm, h1, h2⟩
  simp only [List.length_cons] at h1 h2
  obtain ⟨hx, hg'⟩ := hg
  refine ⟨[Dv (.tuple (steps.map eStp)), some (.loc σ.length), some (.loc (σ.length + 1)), Dv (eStp x), k4, k5, k6, k7, k8, k9], by simp only [EV, k1_ok], ?_⟩
  have ht := turn_ok n hn σ (.tuple (steps.map eStp)) s x k4 k5 k6 k7 k8 k9 hx hm (by lia) (by lia)
  cases hr : runStep s x with
  | none => rw [hr] at ht; exact ht
  | some t =>
   rw [hr] at ht
   obtain ⟨fr', he, hf7⟩ := ht
   obtain ⟨hm', hgr⟩ := hg' t hr
   refine ⟨_, _, he, .mk hf7 hgr hm' ?_ ?_⟩
   ·unfold runStep at hr
    simp only [Option.map_eq_some_iff] at hr
    obtain ⟨u, _, rfl⟩ := hr
    simp; lia
   ·unfold runStep at hr
    simp only [Option.map_eq_some_iff] at hr
    obtain ⟨u, hu, rfl⟩ := hr
    have : u.2.length ≤ s.2.length + 1 := by
     cases x <;> simp only [stepL] at hu
     case define c t =>
      unfold defTh at hu
      cases hch : checked s.2 t with
      | none => rw [hch] at hu; cases hu
      | some ty =>
       rw [hch] at hu
       simp only [Option.bind_some] at hu
       split at hu
       ·cases hu
       ·simp only [Option.map_eq_some_iff] at hu
        obtain ⟨s', _, rfl⟩ := hu
        simp
     all_goals first
      | cases hu
      | (unfold keepC at hu; split at hu <;> cases hu; simp)
    dsimp only; lia
theorem G1 : G[1]? = some (eTy .bool) := rfl
theorem G2 : G[2]? = some (eTy .ind) := rfl
noncomputable abbrev bb : Ty := .fn .bool .bool
noncomputable abbrev bbb : Ty := .fn .bool (.fn .bool .bool)
theorem G3 : G[3]? = some (eTy bb) := rfl
theorem G4 : G[4]? = some (eTy bbb) := rfl
noncomputable abbrev vx : Vr := ⟨.x, 0, .bool⟩
noncomputable abbrev vy : Vr := ⟨.y, 0, .bool⟩
noncomputable abbrev vp : Vr := ⟨.x, 1, .bool⟩
noncomputable abbrev vz : Vr := ⟨.x, 0, .ind⟩
noncomputable def Vr.tm (v : Vr) : Tm := .var v.x v.k v.t
theorem G5 : G[5]? = some (eVr vx) := rfl
theorem G6 : G[6]? = some (eVr vy) := rfl
theorem st24 : st 24 = nm .x 1 := by decide
theorem G7 : G[7]? = some (eVr vp) := by
 show some (PyData.tuple [.str (st 3), .str (st 24), .tuple [.str (st 1)]]) = _
 rw [st24]; rfl
theorem G8 : G[8]? = some (eVr vz) := rfl
noncomputable abbrev tK : Tm := .con .K .bool
noncomputable abbrev tL : Tm := .con .L .bool
theorem G9 : G[9]? = some (eTm tK) := rfl
theorem G10 : G[10]? = some (eTm tL) := rfl
theorem mod_int (a b : Int) (h : 0 < b) : binOp .mod (.int a) (.int b) = some (.int (Int.fmod a b)) := by rw [bin_modI, if_pos h]
theorem fmod_nat (a : Int) (b : Nat) (h : 0 < b) : ∃ r : Nat, r < b ∧ Int.fmod a b = r := by
 have h1 : 0 ≤ Int.fmod a b := Int.fmod_nonneg_of_pos a (by lia)
 have h2 : Int.fmod a b < b := Int.fmod_lt_of_pos a (by lia)
 exact ⟨(Int.fmod a b).toNat, (Int.toNat_lt h1).mpr h2, (Int.toNat_of_nonneg h1).symm⟩
theorem idx_listE {α : Type} (enc : α → PyData) (l : List α) (r : Nat) {a : α} (h : l[r]? = some a) (hr : r < 1000) : idxOp (.list (l.map enc)) (.int r) = some (enc a) := by
 rw [idx_list _ r hr]; simp [h]
theorem bin_small {a b : List PyData} (h : a.length + b.length ≤ 1000) : binOp .add (.list a) (.list b) = some (.list (a ++ b)) := bin_list (by simp only [lim]; exact Bd.wk h rfl)
theorem exSs_append {G : List PyData} {C : CallT} : ∀ (a b : List S) (fr : Frame) (σ : Store), exSs G C (a ++ b) fr σ = (exSs G C a fr σ).andThen (exSs G C b)
 | [], b, fr, σ => by rw [List.nil_append, ss_nil, an_next]
 | s :: a, b, fr, σ => by
  rw [List.cons_append, ss_cons, ss_cons]
  cases exS G C s fr σ with
  | next fr' σ' => rw [an_next, an_next]; exact exSs_append a b fr' σ'
  | ret v σ' => rfl
  | err σ' => rfl
  | stuck => rfl
mutual
noncomputable def pln : PyData → Bool
 | .list xs => plnAll xs
 | .tuple xs => plnAll xs
 | .dict _ => false
 | .none => true
 | .bool _ => true
 | .int _ => true
 | .str _ => true
noncomputable def plnAll : List PyData → Bool
 | [] => true
 | x :: xs => pln x && plnAll xs
end
theorem Z154 : pln (.list xs) = (plnAll xs) := rfl
theorem Z155 : pln (.tuple xs) = (plnAll xs) := rfl
theorem Z156 : pln (.dict u1) = (false) := rfl
theorem Z157 : pln (.none) = (true) := rfl
theorem Z158 : pln (.bool u1) = (true) := rfl
theorem Z159 : pln (.int u1) = (true) := rfl
theorem Z160 : pln (.str u1) = (true) := rfl
theorem Z140 : plnAll ([]) = (true) := rfl
theorem Z141 : plnAll (x :: xs) = (pln x && plnAll xs) := rfl
mutual
theorem eqv_self : ∀ x : PyData, pln x = true → PyData.eqv x x = true
 | .none, _ => rfl
 | .bool b, _ => by cases b <;> rfl
 | .int i, _ => show (i == i) = true from beq_self_eq_true i
 | .str s, _ => show (s == s) = true from beq_self_eq_true s
 | .list xs, h => show PyData.eqvAll xs xs = true from eqvAll_self xs h
 | .tuple xs, h => show PyData.eqvAll xs xs = true from eqvAll_self xs h
 | .dict kvs, h => by simp [Z154, Z155, Z156, Z157, Z158, Z159, Z160] at h
theorem eqvAll_self : ∀ xs : List PyData, plnAll xs = true → PyData.eqvAll xs xs = true
 | [], _ => rfl
 | x :: xs, h => by
  simp only [Z140, Z141, Bool.and_eq_true] at h
  rw [ea_cons, eqv_self x h.1, eqvAll_self xs h.2]; rfl
end
theorem pln_ty : ∀ t : Ty, pln (eTy t) = true
 | .bool => rfl
 | .ind => rfl
 | .any _ => rfl
 | .fn a b => by simp [Z89, Z90, Z91, Z92, Z154, Z155, Z156, Z157, Z158, Z159, Z160, Z140, Z141, pln_ty a, pln_ty b]
theorem pln_tm : ∀ t : Tm, pln (eTm t) = true
 | .var _ _ t => by simp [Z63, Z64, Z65, Z66, Z154, Z155, Z156, Z157, Z158, Z159, Z160, Z140, Z141, pln_ty t]
 | .con _ t => by simp [Z63, Z64, Z65, Z66, Z154, Z155, Z156, Z157, Z158, Z159, Z160, Z140, Z141, pln_ty t]
 | .app f a => by simp [Z63, Z64, Z65, Z66, Z154, Z155, Z156, Z157, Z158, Z159, Z160, Z140, Z141, pln_tm f, pln_tm a]
 | .lam _ _ t b => by simp [Z63, Z64, Z65, Z66, Z154, Z155, Z156, Z157, Z158, Z159, Z160, Z140, Z141, pln_ty t, pln_tm b]
theorem pln_all {α : Type} {enc : α → PyData} (h : ∀ a, pln (enc a) = true) : ∀ l : List α, plnAll (l.map enc) = true
 | [] => rfl
 | a :: l => by simp [Z140, Z141, h a, pln_all h l]
theorem pln_th (t : Th) : pln (eTh t) = true := by simp [eTh, Z154, Z155, Z156, Z157, Z158, Z159, Z160, Z140, Z141, pln_all pln_tm, pln_tm]
theorem depth_all {α : Type} {enc : α → PyData} {D : Nat} : ∀ l : List α, (∀ a ∈ l, (enc a).depth ≤ D) → PyData.depthAll (l.map enc) ≤ D
 | [], _ => by simp [PyData.depthAll]
 | a :: l, h => by
  have := h a List.mem_cons_self
  have := depth_all l fun b hb => h b (List.mem_cons_of_mem _ hb)
  simp only [List.map_cons, PyData.depthAll]; (apply Bd.mx <;> (first | assumption | exact this))
theorem depth_th {t : Th} (h : MoTh t) : (eTh t).depth ≤ 70 := by
 have := depth_tm t.c
 have := h.c.dp
 have := depth_all (enc := eTm) (D := 62) t.hs fun q hq => by have := depth_tm q; have := (h.hs q hq).dp; with_reducible exact Bd.t1 ‹_› this rfl
 simp only [eTh, PyData.depth, PyData.depthAll]; (apply Bd.sc; (apply Bd.mx <;> (first | exact Bd.wkc this rfl | (with_reducible apply Bd.mx <;> (first | exact Bd.zz | with_reducible exact Bd.t1 ‹_› ‹_› rfl)))))
theorem ne_self {x : PyData} (hp : pln x = true) (hd : x.depth ≤ 1000) : cmpD .ne x x = some (.bool false) := by
 refine cmpD_is _ _ _ ?_
 rw [cmp_n, if_pos (.inl (by simp only [dlim]; exact hd)), eqv_self x hp]; rfl
theorem eq_self' {x : PyData} (hp : pln x = true) (hd : x.depth ≤ 1000) : cmpD .eq x x = some (.bool true) := by
 refine cmpD_is _ _ _ ?_
 rw [cmp_e, if_pos (.inl (by simp only [dlim]; exact hd)), eqv_self x hp]
theorem call_law_eq (n : Nat) (σ : Store) (s : Ty) (a b : Tm) : CF (n + 1) 27 [.d (eTy s), .d (eTm a), .d (eTm b)] σ = .ok (.d (eTm (eqT s a b))) σ := by
 show close σ.length (exSs G (CF n) b27 [Dv (eTy s), Dv (eTm a), Dv (eTm b)] σ) = _
 simp only [EV, b27]
 rfl
noncomputable def tryK (i : Nat) (fr : Frame) : Res V → XR
 | .ok v σ => .next (fr.set i (some v)) σ
 | .err σ => .next (fr.set i (Dv .none)) σ
 | .stuck => .stuck
theorem s_tryv {G : List PyData} {C : CallT} {fr : Frame} {σ : Store} {i : Nat} (e : E) (h : i < fr.length) : exS G C (.tryv i e) fr σ = tryK i fr (evE G C e fr σ) := by
 (first | rw [exx_assign, if_pos h] | rw [exx_newl, if_pos h] | rw [exx_newOf, if_pos h] | rw [exx_newd, if_pos h] | rw [exx_setd, if_pos h] | rw [exx_app, if_pos h] | rw [exx_expr, if_pos h] | rw [exx_ite, if_pos h] | rw [exx_whil, if_pos h] | rw [exx_fors, if_pos h] | rw [exx_forr, if_pos h] | rw [exx_ret, if_pos h] | rw [exx_raise, if_pos h] | rw [exx_tryv, if_pos h]); cases evE G C e fr σ <;> rfl
noncomputable def eRun : Option (List Th × Cs2) → PyData
 | some t => .list (t.1.map eTh)
 | none => .none
noncomputable abbrev run0 (steps : List Stp) : Option (List Th × Cs2) := foldO runStep ([], []) steps
theorem call_law_try (n : Nat) (hn : 402 ≤ n) (σ : Store) (steps : List Stp) (hl : steps.length ≤ 400) (hg : Good ([], []) steps) : CF (n + 1) 28 [.d (.tuple (steps.map eStp))] σ = .ok (.d (eRun (run0 steps))) σ := by
 obtain ⟨m, rfl⟩ : ∃ m, n = m + 2 := ⟨n - 2, by exact Bd.pr2 hn⟩
 show close σ.length (exSs G (CF (m + 2)) b28 [Dv (.tuple (steps.map eStp)), none] σ) = _
 have h1 := call_prove m (by exact Bd.fn hn rfl) σ steps hl hg
 simp only [EV, b28]
 rw [s_tryv _ (by simp)]
 simp only [EV, h1]
 cases hf : foldO runStep ([], []) steps with
 | none => simp only [EV, tryK, run0, hf, eRun]
 | some t => simp only [EV, tryK, run0, hf, eRun]
noncomputable def tTruth : Tm := eqT bb (.lam .x 0 .bool (.var .x 0 .bool)) (.lam .x 0 .bool (.var .x 0 .bool))
noncomputable def tTwice : Tm := eqT .bool tK tK
noncomputable def headS : List Stp := [.define .K tTruth, .define .L tTwice]
noncomputable def headD : List Th := [⟨[], eqT .bool tK tTruth⟩, ⟨[], eqT .bool tL tTwice⟩]
noncomputable def headC : Cs2 := [(.K, .bool), (.L, .bool)]
theorem head_run : foldO runStep ([], []) headS = some (headD, headC) := by rfl
theorem call_law_head (n : Nat) (σ : Store) : CF (n + 2) 29 [] σ = .ok (.d (.tuple [.list (headS.map eStp), .list (headD.map eTh)])) σ := by
 show close σ.length (exSs G (CF (n + 1)) b29 [none, none, none, none, none] σ) = _
 have h1 := call_law_eq n σ bb (.lam .x 0 .bool (.var .x 0 .bool)) (.lam .x 0 .bool (.var .x 0 .bool))
 have h2 := call_law_eq n σ .bool tK tK
 have h3 := call_law_eq n σ .bool tK tTruth
 have h4 := call_law_eq n σ .bool tL tTwice
 have e1 : eTm (.lam .x 0 .bool (.var .x 0 .bool)) = .tuple [.str (st 6), eVr vx, eVr vx] := rfl
 rw [e1] at h1
 have e2 : eqT bb (.lam .x 0 .bool (.var .x 0 .bool)) (.lam .x 0 .bool (.var .x 0 .bool)) = tTruth := rfl
 have e3 : eqT .bool tK tK = tTwice := rfl
 rw [e2] at h1
 rw [e3] at h2
 simp only [EV, b29, G5, G3, G1, G9, G10, h1, h2, h3, h4]
 rfl
noncomputable def b38a : List S := [.assign (.var 4) (.tup [(Qs 2), (.glob 2), (.tup [(Qs 2), (.glob 2), (.glob 1)])]), .assign (.var 5) (.tup [(Qs 2), (.glob 2), (.glob 3)]), .assign (.tup [(.var 6), (.var 7)]) (.tup [(.tup [(Qs 2), (.tup [(Qs 10), (Qs 35)]), (.glob 1)]), (.tup [(Qs 2), (.glob 1), (.tup [(Qs 10), (Qs 35)])])]), .assign (.var 8) (.lst [(.tup [(.glob 9), (.glob 1), (.con (.bool true)), (.con (.bool true)), (.con (.bool true))]), (.tup [(.tup [(Qs 4), (Qs 5), (.var 4)]), (.var 4), (.con (.bool true)), (.con (.bool true)), (.con (.bool true))]), (.tup [(.glob 5), (.glob 1), (.con (.bool true)), (.con (.bool true)), (.con (.bool false))])]), .assign (.var 8) (.bin .add (.var 8) (.lst [(.tup [(.tup [(Qs 6), (.tup [(Qs 3), (Qs 37), (.var 6)]), (.glob 9)]), (.tup [(Qs 2), (.var 6), (.glob 1)]), (.con (.bool true)), (.con (.bool true)), (.con (.bool false))])])), .assign (.var 8) (.bin .add (.var 8) (.lst [(.tup [(.tup [(Qs 6), (.tup [(Qs 3), (Qs 37), (.var 7)]), (.glob 9)]), (.tup [(Qs 2), (.var 7), (.glob 1)]), (.con (.bool true)), (.con (.bool true)), (.con (.bool false))])])), .assign (.var 8) (.bin .add (.var 8) (.lst [(.tup [(.tup [(Qs 4), (Qs 38), (.glob 1)]), (.glob 1), (.con (.bool true)), (.con (.bool false)), (.con (.bool true))]), (.tup [(.tup [(Qs 4), (Qs 25), (.glob 2)]), (.glob 2), (.con (.bool true)), (.con (.bool false)), (.con (.bool true))])])), .assign (.var 8) (.bin .add (.var 8) (.lst [(.tup [(.tup [(Qs 7), (.glob 5), (.glob 6)]), (.glob 1), (.con (.bool false)), (.con (.bool true)), (.con (.bool false))])])), .assign (.var 8) (.bin .add (.var 8) (.lst [(.tup [(.tup [(Qs 7), (.tup [(Qs 4), (Qs 5), (.glob 4)]), (.glob 8)]), (.glob 3), (.con (.bool false)), (.con (.bool true)), (.con (.bool false))])])), .assign (.var 8) (.bin .add (.var 8) (.lst [(.tup [(.tup [(Qs 4), (Qs 5), (.glob 3)]), (.glob 3), (.con (.bool false)), (.con (.bool true)), (.con (.bool true))]), (.tup [(.tup [(Qs 4), (Qs 5), (.var 5)]), (.var 5), (.con (.bool false)), (.con (.bool true)), (.con (.bool true))])])), .assign (.var 8) (.bin .add (.var 8) (.lst [(.tup [(.tup [(Qs 4), (Qs 5), (.glob 1)]), (.glob 1), (.con (.bool false)), (.con (.bool true)), (.con (.bool true))])]))]
noncomputable def b38b : List S := [.assign (.tup [(.var 9), (.var 10), (.var 11), (.var 12), (.var 13)]) (.idx (.var 8) (.bin .mod (.var 0) (Qi 12))), .assign (.var 14) (.tup [(Qs 7), (.tup [(Qs 6), (.tup [(Qs 3), (Qs 37), (.var 10)]), (.glob 9)]), (.var 9)]), .assign (.var 15) (.tup [(Qs 7), (.tup [(Qs 6), (.glob 6), (.var 9)]), (.glob 9)]), .assign (.tup [(.var 16), (.var 17)]) (.idx (.lst [(.tup [(.var 9), (.var 10)]), (.tup [(.var 14), (.glob 1)]), (.tup [(.var 15), (.var 10)])]) (.bin .mod (.var 1) (Qi 3)))]
noncomputable def b38c : List S := [.assign (.var 18) (.con .none), .tryv 18 (.call 1 [(.var 16)]), .assign (.var 19) (.con .none), .ite (.var 11) [.assign (.var 19) (.var 17)] [], .ite (.cmp .ne (.var 18) (.var 19)) [.ret (.con (.bool false))] [], .assign (.tup [(.var 20), (.var 21)]) (.call 29 []), .assign (.var 22) (.idx (.lst [(Qs 39), (Qs 25), (Qs 5)]) (.bin .mod (.var 3) (Qi 3)))]
noncomputable def b38d : List S := [.assign (.var 23) (.and [(.var 13), (.cmp .eq (.var 22) (Qs 39))]), .assign (.var 24) (.cmp .eq (.var 17) (.glob 1)), .assign (.var 25) (.lst [(.tup [(.tup [(Qs 11), (.var 16)]), (.tup [(.tup []), (.call 27 [(.var 17), (.var 16), (.var 16)])]), (.con (.bool true))]), (.tup [(.tup [(Qs 12), (.var 16)]), (.tup [(.tup [(.var 16)]), (.var 16)]), (.var 24)])]), .assign (.var 25) (.bin .add (.var 25) (.lst [(.tup [(.tup [(Qs 16), (.glob 8), (.var 16)]), (.tup [(.tup []), (.call 27 [(.var 17), (.tup [(Qs 7), (.tup [(Qs 6), (.glob 8), (.var 16)]), (.glob 8)]), (.var 16)])]), (.con (.bool true))])])), .assign (.var 25) (.bin .add (.var 25) (.lst [(.tup [(.tup [(Qs 17), (.tup [(.tup [(.tup [(Qs 3), (Qs 37), (.var 17)]), (.var 16)])]), (Qi 1)]), (Qx 21 1), (.con (.bool true))])])), .assign (.var 25) (.bin .add (.var 25) (.lst [(.tup [(.tup [(Qs 17), (.tup [(.tup [(.tup [(Qs 3), (Qs 37), (.tup [(Qs 2), (.var 17), (.var 17)])]), (.var 16)])]), (Qi 1)]), (Qx 21 1), (.con (.bool false))])])), .assign (.var 25) (.bin .add (.var 25) (.lst [(.tup [(.tup [(Qs 19), (.var 22), (.var 16)]), (.tup [(.tup []), (.call 27 [(.var 17), (.tup [(Qs 4), (.var 22), (.var 17)]), (.var 16)])]), (.var 23)])]))]
noncomputable def b38e : List S := [.assign (.tup [(.var 26), (.var 27), (.var 28)]) (.idx (.var 25) (.bin .mod (.var 2) (Qi 6))), .assign (.var 19) (.con .none), .ite (.and [(.var 11), (.var 12), (.var 28)]) [.assign (.var 19) (.bin .add (.var 21) (.lst [(.var 27)]))] [], .ite (.cmp .ne (.call 28 [(.toTup (.bin .add (.var 20) (.lst [(.var 26)])))]) (.var 19)) [.ret (.con (.bool false))] [], .ret (.con (.bool true))]
theorem b38_is : b38 = b38a ++ (b38b ++ (b38c ++ (b38d ++ (b38e)))) := rfl
structure Row where
 t : Tm
 k : Ty
 ty : Bool
 he : Bool
 sh : Bool
noncomputable def eRow (r : Row) : PyData := .tuple [eTm r.t, eTy r.k, .bool r.ty, .bool r.he, .bool r.sh]
noncomputable abbrev tyII : Ty := .fn .ind (.fn .ind .bool)
noncomputable abbrev tyIB : Ty := .fn .ind bb
noncomputable abbrev tyLo : Ty := .fn (.any .a) .bool
noncomputable abbrev tyRo : Ty := .fn .bool (.any .a)
noncomputable def rowsL : List Row := [⟨tK, .bool, true, true, true⟩, ⟨.con .eq tyII, tyII, true, true, true⟩, ⟨vx.tm, .bool, true, true, false⟩, ⟨.lam .n 0 tyLo tK, .fn tyLo .bool, true, true, false⟩, ⟨.lam .n 0 tyRo tK, .fn tyRo .bool, true, true, false⟩, ⟨.con .M .bool, .bool, true, false, true⟩, ⟨.con .K .ind, .ind, true, false, true⟩, ⟨.app vx.tm vy.tm, .bool, false, true, false⟩, ⟨.app (.con .eq bbb) vz.tm, bb, false, true, false⟩, ⟨.con .eq bb, bb, false, true, true⟩, ⟨.con .eq tyIB, tyIB, false, true, true⟩, ⟨.con .eq .bool, .bool, false, true, true⟩]
noncomputable abbrev N1 : Option V := none
theorem terms_a (n : Nat) (a b c d : Int) (σ : Store) : exSs G (CF n) b38a [Iv a, Iv b, Iv c, Iv d, none, none, none, none, none, none, none, none, none, none, none, none, none, none, none, none, none, none, none, none, none, none, none, none, none] σ =
  .next [Iv a, Iv b, Iv c, Iv d, Dv (eTy tyII), Dv (eTy tyIB), Dv (eTy tyLo), Dv (eTy tyRo), Dv (.list (rowsL.map eRow)), none, none, none, none, none, none, none, none, none, none, none, none, none, none, none, none, none, none, none, none] σ := by
 simp only [EV, b38a, G1, G2, G3, G4, G5, G6, G8, G9, bin_small, List.cons_append, List.nil_append, Nat.reduceLeDiff]
 rfl
noncomputable def wholes (r : Row) : List (Tm × Ty) := [(r.t, r.k), (.app (.lam .n 0 r.k tK) r.t, .bool), (.app (.lam .y 0 .bool r.t) tK, r.k)]
noncomputable def eWs (p : Tm × Ty) : PyData := .tuple [eTm p.1, eTy p.2]
theorem terms_b (n : Nat) (a b c d : Int) (σ : Store) (i j : Nat) (r : Row) (ws : Tm × Ty) (hi : Int.fmod a 12 = i) (hj : Int.fmod b 3 = j) (hr : rowsL[i]? = some r) (hw : (wholes r)[j]? = some ws) (hi' : i < 12) (hj' : j < 3) :
  ∃ x14 x15, exSs G (CF n) b38b [Iv a, Iv b, Iv c, Iv d, Dv (eTy tyII), Dv (eTy tyIB), Dv (eTy tyLo), Dv (eTy tyRo), Dv (.list (rowsL.map eRow)), none, none, none, none, none, none, none, none, none, none, none, none, none, none, none, none, none, none, none, none] σ =
  .next [Iv a, Iv b, Iv c, Iv d, Dv (eTy tyII), Dv (eTy tyIB), Dv (eTy tyLo), Dv (eTy tyRo), Dv (.list (rowsL.map eRow)), Dv (eTm r.t), Dv (eTy r.k), Dv (.bool r.ty), Dv (.bool r.he), Dv (.bool r.sh), x14, x15, Dv (eTm ws.1), Dv (eTy ws.2), none, none, none, none, none, none, none, none, none, none, none] σ := by
 have h1 := idx_listE eRow rowsL i hr (by exact Bd.ll hi' rfl)
 have h2 := idx_listE eWs (wholes r) j hw (by exact Bd.ll hj' rfl)
 have e2 : (wholes r).map eWs = [.tuple [eTm r.t, eTy r.k], .tuple [.tuple [.str (st 7), .tuple [.str (st 6), .tuple [.str (st 3), .str (st 37), eTy r.k], eTm tK], eTm r.t], eTy .bool], .tuple [.tuple [.str (st 7), .tuple [.str (st 6), eVr vy, eTm r.t], eTm tK], eTy r.k]] := rfl
 rw [e2] at h2
 refine ⟨Dv (.tuple [.str (st 7), .tuple [.str (st 6), .tuple [.str (st 3), .str (st 37), eTy r.k], eTm tK], eTm r.t]), Dv (.tuple [.str (st 7), .tuple [.str (st 6), eVr vy, eTm r.t], eTm tK]), ?_⟩
 simp only [EV, b38b, mod_int _ 12 (by decide), mod_int _ 3 (by decide), hi, hj, h1, eRow, G9, G6, G1, h2, eWs]
noncomputable def cnL : List Cn := [.N, .K, .eq]
noncomputable def eCn (c : Cn) : PyData := .str (st c.i)
theorem terms_c (n : Nat) (x0 x1 x2 x4 x5 x6 x7 x8 x9 x10 x14 x15 : Option V) (d : Int) (σ : Store) (k : Nat) (r : Row) (ws : Tm × Ty) (cn : Cn) (hk : Int.fmod d 3 = k) (hc : cnL[k]? = some cn) (hk' : k < 3) (hn : 500 ≤ n) (hd : ws.1.dp ≤ 60) (hd2 : ws.2.dp ≤ 60)
  (hty : typeOf ws.1 = if r.ty then some ws.2 else none) :
  ∃ x18 x19, exSs G (CF n) b38c [x0, x1, x2, Iv d, x4, x5, x6, x7, x8, x9, x10, Dv (.bool r.ty), Dv (.bool r.he), Dv (.bool r.sh), x14, x15, Dv (eTm ws.1), Dv (eTy ws.2), none, none, none, none, none, none, none, none, none, none, none] σ =
  .next [x0, x1, x2, Iv d, x4, x5, x6, x7, x8, x9, x10, Dv (.bool r.ty), Dv (.bool r.he), Dv (.bool r.sh), x14, x15, Dv (eTm ws.1), Dv (eTy ws.2), x18, x19, Dv (.list (headS.map eStp)), Dv (.list (headD.map eTh)), Dv (eCn cn), none, none, none, none, none, none] σ := by
 obtain ⟨m, rfl⟩ : ∃ m, n = m + 2 := ⟨n - 2, by exact Bd.pr2 hn⟩
 have h1 := call_type_of ws.1 (m + 2) σ (by exact Bd.wkn hd hn rfl) (by exact Bd.wk hd rfl)
 have h2 := call_law_head m σ
 have h3 := idx_listE eCn cnL k hc (by exact Bd.ll hk' rfl)
 have e3 : cnL.map eCn = [.str (st 39), .str (st 25), .str (st 5)] := rfl
 rw [e3] at h3
 have hdt := depth_ty ws.2
 have hne := ne_self (pln_ty ws.2) (by exact Bd.t1 hdt hd2 rfl)
 have hnn : cmpD .ne .none .none = some (.bool false) := ne_self (x := .none) rfl (by simp [PyData.depth])
 rw [hty] at h1
 cases hr : r.ty with
 | true =>
  rw [hr] at h1
  refine ⟨Dv (eTy ws.2), Dv (eTy ws.2), ?_⟩
  simp only [EV, b38c]
  rw [s_tryv _ (by simp)]
  simp only [EV, h1, if_true, ofTy, tryK, hne, h2, mod_int _ 3 (by decide), hk, h3]
 | false =>
  rw [hr] at h1
  refine ⟨Dv .none, Dv .none, ?_⟩
  simp only [EV, b38c]
  rw [s_tryv _ (by simp)]
  simp only [EV, h1, Bool.false_eq_true, if_false, ofTy, tryK, hnn, h2, mod_int _ 3 (by decide), hk, h3]
structure Tr where
 s : Stp
 th : Th
 f : Bool
noncomputable def eTr (t : Tr) : PyData := .tuple [eStp t.s, eTh t.th, .bool t.f]
noncomputable def trials (w : Tm) (s : Ty) (c : Cn) (sh : Bool) : List Tr := [⟨.refl w, ⟨[], eqT s w w⟩, true⟩, ⟨.assume w, ⟨[w], w⟩, s.eq .bool⟩, ⟨.beta vz w, ⟨[], eqT s (.app (.lam .x 0 .ind w) (.var .x 0 .ind)) w⟩, true⟩, ⟨.inst [(⟨.n, 0, s⟩, w)] 1, ⟨[], eqT .bool tL tTwice⟩, true⟩, ⟨.inst [(⟨.n, 0, .fn s s⟩, w)] 1, ⟨[], eqT .bool tL tTwice⟩, false⟩, ⟨.define c w, ⟨[], eqT s (.con c s) w⟩, sh && c.same .N⟩]
theorem terms_d (n : Nat) (x0 x1 x2 x3 x4 x5 x6 x7 x8 x9 x10 x11 x12 x14 x15 x18 x19 : Option V) (σ : Store) (sh : Bool) (w : Tm) (s : Ty) (cn : Cn) (hs : s.dp ≤ 60) :
  ∃ x23 x24, exSs G (CF (n + 1)) b38d [x0, x1, x2, x3, x4, x5, x6, x7, x8, x9, x10, x11, x12, Dv (.bool sh), x14, x15, Dv (eTm w), Dv (eTy s), x18, x19, Dv (.list (headS.map eStp)), Dv (.list (headD.map eTh)), Dv (eCn cn), none, none, none, none, none, none] σ =
  .next [x0, x1, x2, x3, x4, x5, x6, x7, x8, x9, x10, x11, x12, Dv (.bool sh), x14, x15, Dv (eTm w), Dv (eTy s), x18, x19, Dv (.list (headS.map eStp)), Dv (.list (headD.map eTh)), Dv (eCn cn), x23, x24, Dv (.list ((trials w s cn sh).map eTr)), none, none, none] σ := by
 have h1 := call_law_eq n σ s w w
 have h2 := call_law_eq n σ s (.app (.lam .x 0 .ind w) (.var .x 0 .ind)) w
 have e2 : eTm (.app (.lam .x 0 .ind w) (.var .x 0 .ind)) = .tuple [.str (st 7), .tuple [.str (st 6), eVr vz, eTm w], eVr vz] := rfl
 rw [e2] at h2
 have h3 := call_law_eq n σ s (.con cn s) w
 have e3 : eTm (.con cn s) = .tuple [.str (st 4), .str (st cn.i), eTy s] := rfl
 rw [e3] at h3
 have hN : (st cn.i == st 39) = cn.same .N := cn_eq cn .N
 have hc : cmpD .eq (eTy s) (eTy .bool) = some (.bool (s.eq .bool)) := cmpD_is _ _ _ (cmp_ty (by exact Bd.wk hs rfl))
 have hi : idxOp (.list (headD.map eTh)) (.int 1) = some (eTh ⟨[], eqT .bool tL tTwice⟩) := rfl
 have hsh : (sh && cn.same .N) = (if sh then cn.same .N else false) := by cases sh <;> rfl
 refine ⟨Dv (.bool (sh && cn.same .N)), Dv (.bool (s.eq .bool)), ?_⟩
 cases sh with
 | true =>
  simp only [EV, b38d, eCn, hN]
  cases hcn : cn.same .N <;>
   (simp only [EV, hN, hcn, G1, hc, h1, h2, h3, G8, hi, bin_small, List.cons_append, List.nil_append, Nat.reduceLeDiff, trials, Bool.true_and]; rfl)
 | false =>
  simp only [EV, b38d, eCn, hN, G1, hc, h1, h2, h3, G8, hi, bin_small, List.cons_append, List.nil_append, Nat.reduceLeDiff, trials, Bool.false_and]; rfl
noncomputable def moB (t : Tm) : Bool := Nat.ble t.dp 60 && Nat.ble t.sz 100 && Nat.ble t.vs 500 && Nat.ble t.pk 100
theorem moB_iff {t : Tm} (h : moB t = true) : Mo t := by
 simp only [moB, Bool.and_eq_true, Nat.ble_eq] at h
 exact ⟨h.1.1.1, h.1.1.2, h.1.2, h.2⟩
noncomputable def moThB (t : Th) : Bool := t.hs.all moB && moB t.c && Nat.ble t.hs.length 100
theorem moThB_iff {t : Th} (h : moThB t = true) : MoTh t := by
 simp only [moThB, Bool.and_eq_true, Nat.ble_eq, List.all_eq_true] at h
 exact ⟨fun q hq => moB_iff (h.1.1 q hq), moB_iff h.1.2, h.2⟩
noncomputable def moStpB : Stp → Bool
 | .refl t => moB t
 | .assume t => moB t
 | .beta v t => moB t && Nat.ble v.t.dp 60
 | .two _ _ _ => true
 | .abs v _ => Nat.ble v.t.dp 60
 | .inst ps _ => ps.all (fun p => moB p.2 && Nat.ble p.1.t.dp 60) && Nat.ble ps.length 100
 | .insttype ps _ => ps.all fun p => Nat.ble p.2.dp 20
 | .define _ t => moB t
 | .bad _ => true
theorem moStpB_iff {x : Stp} (h : moStpB x = true) : MoStp x := by
 cases x <;> simp only [moStpB, MoStp, Bool.and_eq_true, Nat.ble_eq, List.all_eq_true] at h ⊢
 ·exact moB_iff h
 ·exact moB_iff h
 ·exact ⟨moB_iff h.1, h.2⟩
 ·exact h
 ·exact ⟨fun p hp => ⟨moB_iff (h.1 p hp).1, (h.1 p hp).2⟩, h.2⟩
 ·exact h
 ·exact moB_iff h
noncomputable def goodB (s : List Th × Cs2) : List Stp → Bool
 | [] => true
 | x :: r => moStpB x && (match runStep s x with | some t => t.1.all moThB && goodB t r | none => true)
theorem Z108 : goodB s ([]) = (true) := rfl
theorem Z109 : goodB s (x :: r) = (moStpB x && (match runStep s x with | some t => t.1.all moThB && goodB t r | none => true)) := rfl
theorem goodB_iff : ∀ {r : List Stp} {s : List Th × Cs2}, goodB s r = true → Good s r
 | [], s, _ => trivial
 | x :: r, s, h => by
  simp only [Z108, Z109, Bool.and_eq_true] at h
  refine ⟨moStpB_iff h.1, fun t ht => ?_⟩
  have h2 := h.2
  rw [ht] at h2
  simp only [Bool.and_eq_true, List.all_eq_true] at h2
  exact ⟨fun th hth => moThB_iff (h2.1 th hth), goodB_iff h2.2⟩
noncomputable def tmsEq : List Tm → List Tm → Bool := lsEq Tm.eq
theorem tmsEq_iff {a b : List Tm} (h : tmsEq a b = true) : a = b := lsEq_iff Tm.eq_iff.mp h
noncomputable def Th.eq (a b : Th) : Bool := tmsEq a.hs b.hs && a.c.eq b.c
theorem Th.eq_of {a b : Th} (h : a.eq b = true) : a = b := by
 obtain ⟨h1, c1⟩ := a; obtain ⟨h2, c2⟩ := b
 simp only [Th.eq, Bool.and_eq_true, Tm.eq_iff] at h
 rw [tmsEq_iff h.1, h.2]
noncomputable def thsEq : List Th → List Th → Bool := lsEq Th.eq
theorem thsEq_iff {a b : List Th} (h : thsEq a b = true) : a = b := lsEq_iff Th.eq_of h
noncomputable def endsB (o : Option (List Th × Cs2)) (w : Option (List Th)) : Bool := match o with
 | some t => match w with
  | some l => thsEq t.1 l && l.all moThB
  | none => false
 | none => w.isNone
noncomputable def eWant : Option (List Th) → PyData
 | some l => .list (l.map eTh)
 | none => .none
theorem endsB_iff {o : Option (List Th × Cs2)} {w : Option (List Th)} (h : endsB o w = true) : eRun o = eWant w ∧ pln (eWant w) = true ∧ (eWant w).depth ≤ 1000 := by
 cases o with
 | none => cases w with
  | none => exact ⟨rfl, rfl, by simp [eWant, PyData.depth]⟩
  | some => simp [endsB] at h
 | some t => cases w with
  | none => simp [endsB] at h
  | some l =>
   simp only [endsB, Bool.and_eq_true, List.all_eq_true] at h
   have h1 := thsEq_iff h.1
   refine ⟨by simp only [eRun, eWant, h1], ?_, ?_⟩
   ·simp only [eWant, Z154, Z155, Z156, Z157, Z158, Z159, Z160]; exact pln_all pln_th l
   ·have := depth_all (enc := eTh) (D := 70) l fun t ht => depth_th (moThB_iff (h.2 t ht))
    simp only [eWant, PyData.depth]; exact Bd.wkc this rfl
theorem terms_e (n : Nat) (x0 x1 x3 x4 x5 x6 x7 x8 x9 x10 x13 x14 x15 x16 x17 x18 x19 x22 x23 x24 : Option V) (c : Int) (σ : Store) (ty he : Bool) (trs : List Tr) (k : Nat) (tr : Tr) (hk : Int.fmod c 6 = k) (hk' : k < 6) (ht : trs[k]? = some tr) (hn : 500 ≤ n)
  (hg : Good ([], []) (headS ++ [tr.s])) (hr : endsB (run0 (headS ++ [tr.s])) (if ty && he && tr.f then some (headD ++ [tr.th]) else none) = true) :
  exSs G (CF n) b38e [x0, x1, Iv c, x3, x4, x5, x6, x7, x8, x9, x10, Dv (.bool ty), Dv (.bool he), x13, x14, x15, x16, x17, x18, x19, Dv (.list (headS.map eStp)), Dv (.list (headD.map eTh)), x22, x23, x24, Dv (.list (trs.map eTr)), none, none, none] σ = .ret (.d (.bool true)) σ := by
 obtain ⟨m, rfl⟩ : ∃ m, n = m + 1 := ⟨n - 1, by exact Bd.pr1 hn⟩
 have h1 := idx_listE eTr trs k ht (by exact Bd.ll hk' rfl)
 obtain ⟨e1, e2, e3⟩ := endsB_iff hr
 have h2 := call_law_try m (by exact Bd.fn hn rfl) σ (headS ++ [tr.s]) (by simp [headS]) hg
 have e4 : (headS ++ [tr.s]).map eStp = headS.map eStp ++ [eStp tr.s] := by simp
 rw [e4, e1] at h2
 have hb : binOp .add (.list (headS.map eStp)) (.list [eStp tr.s]) = some (.list (headS.map eStp ++ [eStp tr.s])) := bin_small (by simp [headS])
 have hb2 : binOp .add (.list (headD.map eTh)) (.list [eTh tr.th]) = some (.list ((headD ++ [tr.th]).map eTh)) := by rw [bin_small (by simp [headD])]; simp
 have ht2 : toTupOp (.list (headS.map eStp ++ [eStp tr.s])) = some (.tuple (headS.map eStp ++ [eStp tr.s])) := toTup_is rfl (by simp [headS, lim])
 have hne := ne_self e2 e3
 cases hty : ty with
 | false =>
  rw [hty] at h2 hne
  simp only [Bool.false_and, Bool.false_eq_true, if_false, eWant] at h2 hne
  simp only [EV, b38e, mod_int _ 6 (by decide), hk, h1, eTr, hb, ht2, h2, hne]
 | true =>
  cases hhe : he with
  | false =>
   rw [hty, hhe] at h2 hne
   simp only [Bool.and_false, Bool.false_and, Bool.false_eq_true, if_false, eWant] at h2 hne
   simp only [EV, b38e, mod_int _ 6 (by decide), hk, h1, eTr, hb, ht2, h2, hne]
  | true =>
   cases hf : tr.f with
   | false =>
    rw [hty, hhe, hf] at h2 hne
    simp only [Bool.and_false, Bool.false_eq_true, if_false, eWant] at h2 hne
    simp only [EV, b38e, mod_int _ 6 (by decide), hk, h1, eTr, hb, ht2, hf, h2, hne]
   | true =>
    rw [hty, hhe, hf] at h2 hne
    simp only [Bool.and_self, if_true, eWant] at h2 hne
    simp only [EV, b38e, mod_int _ 6 (by decide), hk, h1, eTr, hb, hb2, ht2, hf, h2, hne]
noncomputable def tyOpt (o : Option Ty) (w : Option Ty) : Bool := match o with | some a => (match w with | some b => a.eq b | none => false) | none => w.isNone
theorem tyOpt_iff {o w : Option Ty} (h : tyOpt o w = true) : o = w := by
 cases o <;> cases w <;> simp [tyOpt, Ty.eq_iff] at h ⊢
 exact h
noncomputable def t3row (r : Row) : Bool := (wholes r).all fun ws => Nat.ble ws.1.dp 60 && Nat.ble ws.2.dp 60 && tyOpt (typeOf ws.1) (if r.ty then some ws.2 else none) &&
 cnL.all fun c => (trials ws.1 ws.2 c r.sh).all fun tr => goodB ([], []) (headS ++ [tr.s]) && endsB (run0 (headS ++ [tr.s])) (if r.ty && r.he && tr.f then some (headD ++ [tr.th]) else none)
theorem t3a : (rowsL.take 3).all t3row = true := by decide +kernel
theorem t3b : ((rowsL.drop 3).take 3).all t3row = true := by decide +kernel
theorem t3c : ((rowsL.drop 6).take 3).all t3row = true := by decide +kernel
theorem t3d : (rowsL.drop 9).all t3row = true := by decide +kernel
theorem t3all (r : Row) (h : r ∈ rowsL) : t3row r = true := by
 have e : rowsL = rowsL.take 3 ++ ((rowsL.drop 3).take 3 ++ ((rowsL.drop 6).take 3 ++ rowsL.drop 9)) := rfl
 rw [e] at h
 rcases List.mem_append.mp h with h | h
 ·exact List.all_eq_true.mp t3a r h
 ·rcases List.mem_append.mp h with h | h
  ·exact List.all_eq_true.mp t3b r h
  ·rcases List.mem_append.mp h with h | h
   ·exact List.all_eq_true.mp t3c r h
   ·exact List.all_eq_true.mp t3d r h
theorem t3use {r : Row} (h : t3row r = true) {ws : Tm × Ty} (hw : ws ∈ wholes r) {c : Cn} (hc : c ∈ cnL) {tr : Tr} (ht : tr ∈ trials ws.1 ws.2 c r.sh) :
  ws.1.dp ≤ 60 ∧ ws.2.dp ≤ 60 ∧ typeOf ws.1 = (if r.ty then some ws.2 else none) ∧ goodB ([], []) (headS ++ [tr.s]) = true ∧ endsB (run0 (headS ++ [tr.s])) (if r.ty && r.he && tr.f then some (headD ++ [tr.th]) else none) = true := by
 unfold t3row at h
 rw [List.all_eq_true] at h
 have h3 := h ws hw
 rw [Bool.and_eq_true, Bool.and_eq_true, Bool.and_eq_true, List.all_eq_true] at h3
 have h4 := h3.2 c hc
 rw [List.all_eq_true] at h4
 have h5 := h4 tr ht
 rw [Bool.and_eq_true] at h5
 exact ⟨Nat.le_of_ble_eq_true h3.1.1.1, Nat.le_of_ble_eq_true h3.1.1.2, tyOpt_iff h3.1.2, h5.1, h5.2⟩
theorem call_of {i n : Nat} {fd : FD} {args : List V} {σ : Store} {fr : Frame} {body : List S} (h : FT[i]? = some fd) (hl : args.length = fd.npar) (hf : args.map some ++ List.replicate (fd.nloc - fd.npar) none = fr) (hb : fd.body = body) : CF (n + 1) i args σ = close σ.length (exSs G (CF n) body fr σ) := by
 show (match FT[i]? with
  | some fd => if args.length = fd.npar then close σ.length (exSs G (CF n) fd.body (args.map some ++ List.replicate (fd.nloc - fd.npar) none) σ) else .stuck
  | none => .stuck) = _
 rw [h]
 dsimp only
 rw [if_pos hl, hf, hb]
theorem seq_next {G : List PyData} {C : CallT} {a b : List S} {fr fr' : Frame} {σ σ' : Store} (h : exSs G C a fr σ = .next fr' σ') : exSs G C (a ++ b) fr σ = exSs G C b fr' σ' := by rw [exSs_append, h, an_next]
theorem call_law_terms (n : Nat) (hn : 502 ≤ n) (a b c d : Int) (σ : Store) : CF (n + 1) 38 [.d (.int a), .d (.int b), .d (.int c), .d (.int d)] σ = .ok (.d (.bool true)) σ := by
 obtain ⟨i, hi, ei⟩ := fmod_nat a 12 (by decide)
 obtain ⟨j, hj, ej⟩ := fmod_nat b 3 (by decide)
 obtain ⟨l, hl, el⟩ := fmod_nat c 6 (by decide)
 obtain ⟨k, hk, ek⟩ := fmod_nat d 3 (by decide)
 have hr : ∃ r, rowsL[i]? = some r := ⟨rowsL[i]'(by simpa [rowsL] using hi), List.getElem?_eq_getElem _⟩
 obtain ⟨r, hr⟩ := hr
 have hw : ∃ ws, (wholes r)[j]? = some ws := ⟨(wholes r)[j]'(by simpa [wholes] using hj), List.getElem?_eq_getElem _⟩
 obtain ⟨ws, hw⟩ := hw
 have hc : ∃ cn, cnL[k]? = some cn := ⟨cnL[k]'(by simpa [cnL] using hk), List.getElem?_eq_getElem _⟩
 obtain ⟨cn, hc⟩ := hc
 have ht : ∃ tr, (trials ws.1 ws.2 cn r.sh)[l]? = some tr := ⟨(trials ws.1 ws.2 cn r.sh)[l]'(by simpa [trials] using hl), List.getElem?_eq_getElem _⟩
 obtain ⟨tr, ht⟩ := ht
 obtain ⟨f1, f2, f3, f5, f6⟩ := t3use (t3all r (List.mem_of_getElem? hr)) (List.mem_of_getElem? hw) (List.mem_of_getElem? hc) (List.mem_of_getElem? ht)
 obtain ⟨m, rfl⟩ : ∃ m, n = m + 1 := ⟨n - 1, by exact Bd.pr1 hn⟩
 have ha := terms_a (m + 1) a b c d σ
 obtain ⟨x14, x15, hb⟩ := terms_b (m + 1) a b c d σ i j r ws ei ej hr hw hi hj
 obtain ⟨x18, x19, hcc⟩ := terms_c (m + 1) (Iv a) (Iv b) (Iv c) (Dv (eTy tyII)) (Dv (eTy tyIB)) (Dv (eTy tyLo)) (Dv (eTy tyRo)) (Dv (.list (rowsL.map eRow))) (Dv (eTm r.t)) (Dv (eTy r.k)) x14 x15 d σ k r ws cn ek hc hk (by exact Bd.lw hn rfl) f1 f2 f3
 obtain ⟨x23, x24, hdd⟩ := terms_d m (Iv a) (Iv b) (Iv c) (Iv d) (Dv (eTy tyII)) (Dv (eTy tyIB)) (Dv (eTy tyLo)) (Dv (eTy tyRo)) (Dv (.list (rowsL.map eRow))) (Dv (eTm r.t)) (Dv (eTy r.k)) (Dv (.bool r.ty)) (Dv (.bool r.he)) x14 x15 x18 x19 σ r.sh ws.1 ws.2 cn f2
 have hee := terms_e (m + 1) (Iv a) (Iv b) (Iv d) (Dv (eTy tyII)) (Dv (eTy tyIB)) (Dv (eTy tyLo)) (Dv (eTy tyRo)) (Dv (.list (rowsL.map eRow))) (Dv (eTm r.t)) (Dv (eTy r.k)) (Dv (.bool r.sh)) x14 x15 (Dv (eTm ws.1)) (Dv (eTy ws.2)) x18 x19 (Dv (eCn cn)) x23 x24 c σ r.ty r.he (trials ws.1 ws.2 cn r.sh) l tr el hl ht (by exact Bd.lw hn rfl) (goodB_iff f5) f6
 have hall := (seq_next (b := b38b ++ (b38c ++ (b38d ++ b38e))) ha).trans ((seq_next (b := b38c ++ (b38d ++ b38e)) hb).trans ((seq_next (b := b38d ++ b38e) hcc).trans ((seq_next (b := b38e) hdd).trans hee)))
 rw [call_of (fd := f38) (fr := [Iv a, Iv b, Iv c, Iv d, none, none, none, none, none, none, none, none, none, none, none, none, none, none, none, none, none, none, none, none, none, none, none, none, none]) (body := b38a ++ (b38b ++ (b38c ++ (b38d ++ b38e)))) rfl rfl (by simp only [f38, List.map_cons, List.map_nil, List.cons_append, List.nil_append, Nat.reduceSub, List.replicate]) b38_is, hall, close_d, take_self]
inductive Fo where | id | cst | bare
noncomputable def term : Fo → Bs → Ty → Tm
 | .id, x, κ => .lam x 0 κ (.var x 0 κ)
 | .cst, x, κ => .lam x 0 κ tK
 | .bare, x, κ => .var x 0 κ
noncomputable def whole : Fo → Ty → Ty
 | .id, κ => .fn κ κ
 | .cst, κ => .fn κ .bool
 | .bare, κ => κ
noncomputable def fm (f : Fo) (x : Bs) (κ : Ty) : Tm := eqT (whole f κ) (term f x κ) (term f x κ)
noncomputable def Fo.i : Fo → Nat | .id => 0 | .cst => 1 | .bare => 2
noncomputable def same2 (f : Fo) (x : Bs) (κ : Ty) (g : Fo) (y : Bs) (μ : Ty) : Bool := f.i == g.i && κ.eq μ && (f.i != 2 || x.same y)
theorem Ty.eq_self (a : Ty) : a.eq a = true := Ty.eq_iff.mpr rfl
theorem Tm.eq_self (a : Tm) : a.eq a = true := Tm.eq_iff.mpr rfl
theorem Db.eq_self (a : Db) : a.eq a = true := Db.eq_iff.mpr rfl
theorem Bs.same_self (a : Bs) : a.same a = true := Bs.same_iff.mpr rfl
theorem Cn.same_self (a : Cn) : a.same a = true := Cn.same_iff.mpr rfl
theorem alike_self (a : Tm) : alike a a = true := Db.eq_self _
theorem Vr.eq_self (v : Vr) : v.eq v = true := Vr.eq_iff.mpr rfl
theorem norm_bound (x : Bs) (k : Nat) (κ : Ty) : normV ⟨x, k, κ⟩ [⟨x, k, κ⟩] = .bound 0 := by
 simp [normV, Z106, Z107, Vr.eq_self]
theorem norm_loose (x : Bs) (k : Nat) (κ : Ty) : normV ⟨x, k, κ⟩ [] = .var x k κ := rfl
theorem type_term (f : Fo) (x : Bs) (κ : Ty) : typeOf (term f x κ) = some (whole f κ) := by
 cases f <;> simp [term, whole, Z73, Z74, Z75, Z76, Cn.same, Cn.i]
theorem type_eqT (s : Ty) (a b : Tm) (ha : typeOf a = some s) (hb : typeOf b = some s) : typeOf (eqT s a b) = some .bool := by
 simp [eqT, Z73, Z74, Z75, Z76, eqTy, Ty.eq_self, Cn.same_self, ha, hb]
theorem type_fm (f : Fo) (x : Bs) (κ : Ty) : typeOf (fm f x κ) = some .bool := type_eqT _ _ _ (type_term ..) (type_term ..)
theorem sides_eqT (s : Ty) (a b : Tm) : sides (eqT s a b) = some (a, b) := by simp [sides, eqT, Cn.same_self]
theorem norm_eqT (s : Ty) (a b : Tm) (env : List Vr) : norm (eqT s a b) env = .app (.app (.con .eq (.fn s (.fn s .bool))) (norm a env)) (norm b env) := rfl
theorem alike_fm (f : Fo) (x : Bs) (κ : Ty) (g : Fo) (y : Bs) (μ : Ty) : alike (fm f x κ) (fm g y μ) = same2 f x κ g y μ := by
 unfold alike fm
 rw [norm_eqT, norm_eqT]
 cases f <;> cases g <;> simp only [term, whole, Z41, Z42, Z43, Z44, norm_bound, norm_loose, List.nil_append, Z9, Z10, Z11, Z12, Z13, Z1, Z2, Z3, Z4, same2, Fo.i, Cn.same_self, Bs.same_self, Bool.true_and, Bool.and_true, Bool.and_false, Bool.false_and, beq_self_eq_true, Nat.reduceBEq, Nat.reduceBNe, Bool.true_or, Bool.false_or, bne_self_eq_false]
 all_goals first
  | rfl
  | (cases κ.eq μ <;> rfl)
  | (cases κ.eq μ <;> cases x.same y <;> rfl)
theorem alike_comm (a b : Tm) : alike a b = alike b a := by
 unfold alike
 rw [Bool.eq_iff_iff, Db.eq_iff, Db.eq_iff]
 exact eq_comm
theorem ck_fm (cs : Cs2) (f : Fo) (x : Bs) (κ : Ty) (hK : lookC .K cs = some .bool) : ckCons cs (fm f x κ) = true := by
 cases f <;> simp [fm, eqT, term, Z55, Z56, Z57, Z58, Cn.same_self, hK, Ty.eq_self]
theorem checked_fm (cs : Cs2) (f : Fo) (x : Bs) (κ : Ty) (hK : lookC .K cs = some .bool) : checked cs (fm f x κ) = some .bool := by
 unfold checked; rw [ck_fm cs f x κ hK, if_pos rfl, type_fm]
theorem types_fm (ps : List Tp) (f : Fo) (x : Bs) (κ : Ty) : typesPut ps (fm f x κ) = fm f x (tyPut ps κ) := by
 cases f <;> rfl
theorem types_eqT (ps : List Tp) (s : Ty) (a b : Tm) : typesPut ps (eqT s a b) = eqT (tyPut ps s) (typesPut ps a) (typesPut ps b) := rfl
theorem vars_fm (f : Fo) (x : Bs) (κ : Ty) (o : List Vr) : varsInto (fm f x κ) o = if memv ⟨x, 0, κ⟩ o then o else o ++ [⟨x, 0, κ⟩] := by
 have h2 : memv ⟨x, 0, κ⟩ (o ++ [⟨x, 0, κ⟩]) = true := by simp [memv, Vr.eq_self]
 cases h : memv ⟨x, 0, κ⟩ o <;> cases f <;> simp [fm, eqT, term, Z69, Z70, Z71, Z72, h, h2]
noncomputable def hypsOf (f : Fo) (x : Bs) (κ : Ty) (g : Fo) (y : Bs) (μ : Ty) : List Tm := if same2 f x κ g y μ then [fm f x κ] else [fm f x κ, fm g y μ]
noncomputable def bothOf (f : Fo) (x : Bs) (κ : Ty) (g : Fo) (y : Bs) (μ : Ty) : Tm := eqT .bool (fm f x κ) (fm g y μ)
noncomputable def madeT (f : Fo) (x : Bs) (κ : Ty) (g : Fo) (y : Bs) (μ : Ty) (apart : Bool) : Nat → Th
 | 0 => ⟨if apart then hypsOf f x κ g y μ else [], bothOf f x κ g y μ⟩
 | 1 => ⟨hypsOf f x κ g y μ, fm g y μ⟩
 | _ => ⟨[], eqT .bool (bothOf f x κ g y μ) (bothOf f x κ g y μ)⟩
noncomputable def seen2 (x : Bs) (κ : Ty) (y : Bs) (μ : Ty) : List Vr := if (⟨x, 0, κ⟩ : Vr).eq ⟨y, 0, μ⟩ then [⟨x, 0, κ⟩] else [⟨x, 0, κ⟩, ⟨y, 0, μ⟩]
theorem memv_nil (v : Vr) : memv v [] = false := rfl
theorem memv_one (v w : Vr) : memv v [w] = w.eq v := by simp [memv]
theorem memv_two (v w u : Vr) : memv v [w, u] = (w.eq v || u.eq v) := by simp [memv]
theorem vars_one (f : Fo) (x : Bs) (κ : Ty) : varsInto (fm f x κ) [] = [⟨x, 0, κ⟩] := by rw [vars_fm, memv_nil]; rfl
theorem vars_two (g : Fo) (x : Bs) (κ : Ty) (y : Bs) (μ : Ty) : varsInto (fm g y μ) [⟨x, 0, κ⟩] = seen2 x κ y μ := by rw [vars_fm, memv_one]; rfl
theorem mem_seen2 (x : Bs) (κ : Ty) (y : Bs) (μ : Ty) : memv ⟨x, 0, κ⟩ (seen2 x κ y μ) = true ∧ memv ⟨y, 0, μ⟩ (seen2 x κ y μ) = true := by
 unfold seen2
 cases h : (⟨x, 0, κ⟩ : Vr).eq ⟨y, 0, μ⟩ with
 | true => simp [memv_one, Vr.eq_self, h]
 | false => simp [memv_two, Vr.eq_self]
theorem vars_seenL (f : Fo) (x : Bs) (κ : Ty) (y : Bs) (μ : Ty) : varsInto (fm f x κ) (seen2 x κ y μ) = seen2 x κ y μ := by rw [vars_fm, (mem_seen2 x κ y μ).1]; rfl
theorem vars_seenR (g : Fo) (x : Bs) (κ : Ty) (y : Bs) (μ : Ty) : varsInto (fm g y μ) (seen2 x κ y μ) = seen2 x κ y μ := by rw [vars_fm, (mem_seen2 x κ y μ).2]; rfl
theorem vars_self (f : Fo) (x : Bs) (κ : Ty) : varsInto (fm f x κ) [⟨x, 0, κ⟩] = [⟨x, 0, κ⟩] := by rw [vars_fm, memv_one, Vr.eq_self]; rfl
theorem vars_eqT (s : Ty) (a b : Tm) (o : List Vr) : varsInto (eqT s a b) o = varsInto b (varsInto a o) := rfl
theorem seen_made (f : Fo) (x : Bs) (κ : Ty) (g : Fo) (y : Bs) (μ : Ty) (ap : Bool) (w : Nat) : seenOf (madeT f x κ g y μ ap w) = seen2 x κ y μ := by
 unfold seenOf
 match w with
 | 0 =>
  simp only [madeT, hypsOf, bothOf]
  cases ap <;> cases same2 f x κ g y μ <;> simp only [if_true, Bool.false_eq_true, if_false, List.foldl_nil, List.foldl_cons, vars_eqT, vars_one, vars_self, vars_two, vars_seenL, vars_seenR]
 | 1 =>
  simp only [madeT, hypsOf]
  cases same2 f x κ g y μ <;> simp only [if_true, Bool.false_eq_true, if_false, List.foldl_nil, List.foldl_cons, vars_one, vars_two, vars_seenR]
 | n + 2 =>
  simp only [madeT, bothOf, List.foldl_nil, vars_eqT, vars_one, vars_two, vars_seenL, vars_seenR]
theorem turn_seen (ps : List Tp) (x : Bs) (κ : Ty) (y : Bs) (μ : Ty) : (foldO (turnStep ps) [] (seen2 x κ y μ)).isSome = !(x.same y && !(κ.eq μ) && (tyPut ps κ).eq (tyPut ps μ)) := by
 unfold seen2
 have hv : (⟨x, 0, κ⟩ : Vr).eq ⟨y, 0, μ⟩ = (x.same y && κ.eq μ) := by simp [Vr.eq]
 have ht : (turnV ps ⟨x, 0, κ⟩).eq (turnV ps ⟨y, 0, μ⟩) = (x.same y && (tyPut ps κ).eq (tyPut ps μ)) := by simp [turnV, Vr.eq]
 rw [hv]
 cases hx : x.same y <;> cases hk : κ.eq μ <;> cases hq : (tyPut ps κ).eq (tyPut ps μ) <;> simp [Z19, Z20, turnStep, memv_nil, memv_one, ht, hx, hq]
theorem same2_put (ps : List Tp) (f : Fo) (x : Bs) (κ : Ty) (g : Fo) (y : Bs) (μ : Ty) (h : same2 f x κ g y μ = true) : same2 f x (tyPut ps κ) g y (tyPut ps μ) = true := by
 simp only [same2, Bool.and_eq_true, Ty.eq_iff] at h ⊢
 obtain ⟨⟨h1, rfl⟩, h3⟩ := h
 exact ⟨⟨h1, rfl⟩, h3⟩
theorem join_hyps (ps : List Tp) (f : Fo) (x : Bs) (κ : Ty) (g : Fo) (y : Bs) (μ : Ty) : joinL [] ((hypsOf f x κ g y μ).map (typesPut ps)) = hypsOf f x (tyPut ps κ) g y (tyPut ps μ) := by
 unfold hypsOf
 cases h : same2 f x κ g y μ with
 | true => simp [same2_put ps f x κ g y μ h, joinL, among, types_fm]
 | false =>
  simp only [Bool.false_eq_true, if_false, List.map_cons, List.map_nil, types_fm, joinL, List.foldl_cons, List.foldl_nil, among, List.any_nil, List.any_cons, Bool.or_false, List.nil_append]
  rw [alike_comm, alike_fm]
  cases same2 f x (tyPut ps κ) g y (tyPut ps μ) <;> rfl
theorem with_made (ps : List Tp) (f : Fo) (x : Bs) (κ : Ty) (g : Fo) (y : Bs) (μ : Ty) (ap : Bool) (w : Nat) :
  withTh ps (madeT f x κ g y μ ap w) = if x.same y && !(κ.eq μ) && (tyPut ps κ).eq (tyPut ps μ) then none else some (madeT f x (tyPut ps κ) g y (tyPut ps μ) ap w) := by
 have ht := turn_seen ps x κ y μ
 unfold withTh
 rw [seen_made]
 cases hc : (x.same y && !(κ.eq μ) && (tyPut ps κ).eq (tyPut ps μ)) with
 | true =>
  rw [hc] at ht
  have : foldO (turnStep ps) [] (seen2 x κ y μ) = none := by
   cases h : foldO (turnStep ps) [] (seen2 x κ y μ) with
   | none => rfl
   | some => rw [h] at ht; cases ht
  rw [this]; rfl
 | false =>
  rw [hc] at ht
  have : ∃ o, foldO (turnStep ps) [] (seen2 x κ y μ) = some o := by
   cases h : foldO (turnStep ps) [] (seen2 x κ y μ) with
   | none => rw [h] at ht; cases ht
   | some o => exact ⟨o, rfl⟩
  obtain ⟨o, ho⟩ := this
  rw [ho]
  simp only [Option.map_some, Bool.false_eq_true, if_false, Option.some.injEq]
  match w with
  | 0 =>
   cases ap
   ·simp only [madeT, Bool.false_eq_true, if_false, List.map_nil, bothOf, types_eqT, types_fm, Z161, Z162, Z163, Z164]; rfl
   ·simp only [madeT, if_true, join_hyps, bothOf, types_eqT, types_fm, Z161, Z162, Z163, Z164]
  | 1 => simp only [madeT, join_hyps, types_fm]
  | n + 2 => simp only [madeT, List.map_nil, bothOf, types_eqT, types_fm, Z161, Z162, Z163, Z164]; rfl
inductive Runs : List Th × Cs2 → List Stp → Option (List Th × Cs2) → Prop
 | nil (s : List Th × Cs2) : Runs s [] (some s)
 | cons {s t : List Th × Cs2} {x : Stp} {r : List Stp} {o : Option (List Th × Cs2)} : runStep s x = some t → MoStp x → (∀ th ∈ t.1, MoTh th) → Runs t r o → Runs s (x :: r) o
 | stop {s : List Th × Cs2} {x : Stp} {r : List Stp} : runStep s x = none → MoStp x → Runs s (x :: r) none
theorem Runs.fold {s : List Th × Cs2} {r : List Stp} {o : Option (List Th × Cs2)} (h : Runs s r o) : foldO runStep s r = o := by
 induction h with
 | nil s => rfl
 | cons h1 _ _ _ ih => ((first | rewrite [Z19] | rewrite [Z20]); rw [h1, Option.bind_some, ih])
 | stop h1 _ => ((first | rewrite [Z19] | rewrite [Z20]); rw [h1]); rfl
theorem Runs.good {s : List Th × Cs2} {r : List Stp} {o : Option (List Th × Cs2)} (h : Runs s r o) : Good s r := by
 induction h with
 | nil s => trivial
 | cons h1 h2 h3 _ ih =>
  refine ⟨h2, fun t ht => ?_⟩
  rw [h1] at ht; cases ht
  exact ⟨h3, ih⟩
 | stop h1 h2 => exact ⟨h2, fun t ht => by rw [h1] at ht; cases ht⟩
theorem mo_headD : ∀ th ∈ headD, MoTh th := fun th h => moThB_iff (List.all_eq_true.mp (show headD.all moThB = true by decide) th h)
theorem runs_head {r : List Stp} {o : Option (List Th × Cs2)} (h : Runs (headD, headC) r o) : Runs ([], []) (headS ++ r) o := by
 refine .cons (t := ([⟨[], eqT .bool tK tTruth⟩], [(.K, .bool)])) rfl (moB_iff (show moB tTruth = true by decide)) (fun th hth => ?_) (.cons (t := (headD, headC)) rfl (moB_iff (show moB tTwice = true by decide)) mo_headD h)
 simp at hth; subst hth
 exact mo_headD _ (by simp [headD])
theorem mo_snoc {l : List Th} {t : Th} (h : ∀ th ∈ l, MoTh th) (ht : MoTh t) : ∀ th ∈ l ++ [t], MoTh th := fun th hth => by
 rcases List.mem_append.mp hth with q | q
 ·exact h th q
 ·simp at q; subst q; exact ht
theorem mo_fm (f : Fo) (x : Bs) (κ : Ty) (h : κ.dp ≤ 10) : (fm f x κ).dp ≤ 20 ∧ (fm f x κ).sz ≤ 2 ∧ (fm f x κ).vs ≤ 4 ∧ (fm f x κ).pk = 0 := by
 cases f <;> simp [fm, eqT, term, whole, Z114, Z115, Z116, Z117, Z150, Z151, Z152, Z153, Z130, Z131, Z132, Z133, Z126, Z127, Z128, Z129, Z122, Z123, Z124, Z125] <;> (first | exact Bd.wk h rfl | (with_reducible apply Bd.mx <;> (first | exact Bd.wk h rfl | (with_reducible apply Bd.sc; (apply Bd.mx <;> (first | exact Bd.wk h rfl | lia))))))
theorem mo_fm' (f : Fo) (x : Bs) (κ : Ty) (h : κ.dp ≤ 10) : Mo (fm f x κ) := by
 obtain ⟨h1, h2, h3, h4⟩ := mo_fm f x κ h
 exact ⟨by exact Bd.wk h1 rfl, by exact Bd.wk h2 rfl, by exact Bd.wk h3 rfl, by exact Bd.z0 h4⟩
theorem mo_eqT {s : Ty} {a b : Tm} (hs : s.dp ≤ 40) (ha : a.dp ≤ 40 ∧ a.sz ≤ 40 ∧ a.vs ≤ 40 ∧ a.pk ≤ 40) (hb : b.dp ≤ 40 ∧ b.sz ≤ 40 ∧ b.vs ≤ 40 ∧ b.pk ≤ 40) : Mo (eqT s a b) := by
 refine ⟨?_, ?_, ?_, ?_⟩ <;> simp only [eqT, Z114, Z115, Z116, Z117, Z150, Z151, Z152, Z153, Z130, Z131, Z132, Z133, Z126, Z127, Z128, Z129, Z122, Z123, Z124, Z125] <;> (first | (with_reducible apply Bd.mx <;> (first | (with_reducible apply Bd.mx <;> (first | exact Bd.zz | (with_reducible apply Bd.sc; (apply Bd.mx <;> (first | (with_reducible apply Bd.sc; (apply Bd.mx <;> (first | exact Bd.wk hs rfl | (with_reducible apply Bd.sc; (apply Bd.mx <;> (first | exact Bd.wk hs rfl | exact Bd.zz)))))) | lia))) | lia)) | lia)) | (with_reducible apply Bd.sc; (first | (with_reducible apply Bd.mx <;> (first | exact Bd.zz | (with_reducible apply Bd.sc; (apply Bd.mx <;> (first | (with_reducible apply Bd.sc; (apply Bd.mx <;> (first | exact Bd.wk hs rfl | (with_reducible apply Bd.sc; (apply Bd.mx <;> (first | exact Bd.wk hs rfl | exact Bd.zz)))))) | lia))) | lia)) | lia)) | lia)
theorem mo_both (f : Fo) (x : Bs) (κ : Ty) (g : Fo) (y : Bs) (μ : Ty) (h : κ.dp ≤ 10) (h' : μ.dp ≤ 10) : (bothOf f x κ g y μ).dp ≤ 30 ∧ (bothOf f x κ g y μ).sz ≤ 4 ∧ (bothOf f x κ g y μ).vs ≤ 8 ∧ (bothOf f x κ g y μ).pk = 0 := by
 obtain ⟨h1, h2, h3, h4⟩ := mo_fm f x κ h
 obtain ⟨k1, k2, k3, k4⟩ := mo_fm g y μ h'
 simp only [bothOf, eqT, Z114, Z115, Z116, Z117, Z150, Z151, Z152, Z153, Z130, Z131, Z132, Z133, Z126, Z127, Z128, Z129, Z122, Z123, Z124, Z125]; (apply And.intro <;> (first | (with_reducible apply And.intro <;> (first | (with_reducible apply And.intro <;> (first | exact Bd.wk k1 rfl | (with_reducible apply Bd.sc; (apply Bd.mx <;> (first | exact Bd.wk h1 rfl | (with_reducible apply Bd.sc; (apply Bd.mx <;> (first | exact Bd.zz | (with_reducible apply Bd.sc; (apply Bd.mx <;> exact Bd.zz)))))))) | lia)) | (with_reducible apply Bd.mx <;> (first | exact Bd.wk k1 rfl | (with_reducible apply Bd.sc; (apply Bd.mx <;> (first | exact Bd.wk h1 rfl | (with_reducible apply Bd.sc; (apply Bd.mx <;> (first | exact Bd.zz | (with_reducible apply Bd.sc; (apply Bd.mx <;> exact Bd.zz)))))))) | lia)) | lia)) | (with_reducible apply Bd.sc; (first | (with_reducible apply And.intro <;> (first | exact Bd.wk k1 rfl | (with_reducible apply Bd.sc; (apply Bd.mx <;> (first | exact Bd.wk h1 rfl | (with_reducible apply Bd.sc; (apply Bd.mx <;> (first | exact Bd.zz | (with_reducible apply Bd.sc; (apply Bd.mx <;> exact Bd.zz)))))))) | lia)) | (with_reducible apply Bd.mx <;> (first | exact Bd.wk k1 rfl | (with_reducible apply Bd.sc; (apply Bd.mx <;> (first | exact Bd.wk h1 rfl | (with_reducible apply Bd.sc; (apply Bd.mx <;> (first | exact Bd.zz | (with_reducible apply Bd.sc; (apply Bd.mx <;> exact Bd.zz)))))))) | lia)) | lia))))
theorem mo_hyps (f : Fo) (x : Bs) (κ : Ty) (g : Fo) (y : Bs) (μ : Ty) (h : κ.dp ≤ 10) (h' : μ.dp ≤ 10) : (∀ q ∈ hypsOf f x κ g y μ, Mo q) ∧ (hypsOf f x κ g y μ).length ≤ 2 := by
 unfold hypsOf
 split
 ·exact ⟨fun q hq => by simp at hq; subst hq; exact mo_fm' f x κ h, by simp⟩
 ·refine ⟨fun q hq => ?_, by simp⟩
  simp at hq
  rcases hq with rfl | rfl
  ·exact mo_fm' f x κ h
  ·exact mo_fm' g y μ h'
theorem mo_made (f : Fo) (x : Bs) (κ : Ty) (g : Fo) (y : Bs) (μ : Ty) (ap : Bool) (w : Nat) (h : κ.dp ≤ 10) (h' : μ.dp ≤ 10) : MoTh (madeT f x κ g y μ ap w) := by
 obtain ⟨b1, b2, b3, b4⟩ := mo_both f x κ g y μ h h'
 obtain ⟨y1, y2⟩ := mo_hyps f x κ g y μ h h'
 have hb : Mo (bothOf f x κ g y μ) := ⟨by exact Bd.wk b1 rfl, by exact Bd.wk b2 rfl, by exact Bd.wk b3 rfl, by exact Bd.z0 b4⟩
 match w with
 | 0 =>
  refine ⟨?_, hb, ?_⟩
  ·simp only [madeT]; split
   ·exact y1
   ·intro q hq; cases hq
  ·simp only [madeT]; split
   ·exact Bd.wk y2 rfl
   ·simp
 | 1 => exact ⟨y1, mo_fm' g y μ h', by show (hypsOf f x κ g y μ).length ≤ 100; exact Bd.wk y2 rfl⟩
 | n + 2 => exact ⟨fun q hq => (by cases hq), mo_eqT (by simp [Z150, Z151, Z152, Z153]) ⟨by exact Bd.wk b1 rfl, by exact Bd.wk b2 rfl, by exact Bd.wk b3 rfl, by exact Bd.z0 b4⟩ ⟨by exact Bd.wk b1 rfl, by exact Bd.wk b2 rfl, by exact Bd.wk b3 rfl, by exact Bd.z0 b4⟩, by simp [madeT]⟩
noncomputable def steps2 (f : Fo) (x : Bs) (κ : Ty) (g : Fo) (y : Bs) (μ : Ty) (tu ps : List Tp) (j : Nat) : List Stp :=
 [.assume (fm f x κ), .assume (fm g y μ), .two .antisym 2 3, .two .eqmp 4 2, .refl (bothOf f x κ g y μ), .insttype tu 5, .insttype tu 7, .insttype ps (4 + j)]
noncomputable def due2 (f : Fo) (x : Bs) (κ : Ty) (g : Fo) (y : Bs) (μ : Ty) (tu : List Tp) (ap : Bool) : List Th :=
 headD ++ [⟨[fm f x κ], fm f x κ⟩, ⟨[fm g y μ], fm g y μ⟩, madeT f x κ g y μ ap 0, madeT f x κ g y μ ap 1, madeT f x κ g y μ ap 2, madeT f x (tyPut tu κ) g y (tyPut tu μ) ap 1, madeT f x κ g y μ ap 1]
theorem antisym_fm (f : Fo) (x : Bs) (κ : Ty) (g : Fo) (y : Bs) (μ : Ty) : twoTh .antisym ⟨[fm f x κ], fm f x κ⟩ ⟨[fm g y μ], fm g y μ⟩ = some (madeT f x κ g y μ (!(same2 f x κ g y μ)) 0) := by
 have h1 := alike_fm f x κ g y μ
 have h2 : alike (fm g y μ) (fm f x κ) = same2 f x κ g y μ := by rw [alike_comm, h1]
 simp only [twoTh, type_fm, Option.map_some, madeT, hypsOf, bothOf]
 cases hs : same2 f x κ g y μ <;> simp [withoutL, h1, h2, hs, joinL, among]
theorem eqmp_fm (f : Fo) (x : Bs) (κ : Ty) (g : Fo) (y : Bs) (μ : Ty) : twoTh .eqmp (madeT f x κ g y μ (!(same2 f x κ g y μ)) 0) ⟨[fm f x κ], fm f x κ⟩ = some (madeT f x κ g y μ (!(same2 f x κ g y μ)) 1) := by
 simp only [twoTh, madeT, bothOf, sides_eqT, Option.bind_some, alike_self, if_true]
 unfold hypsOf
 cases hs : same2 f x κ g y μ <;> simp [joinL, among, alike_self]
theorem step_assume {made : List Th} {cs : Cs2} {t : Tm} (h : checked cs t = some .bool) : runStep (made, cs) (.assume t) = some (made ++ [⟨[t], t⟩], cs) := by
 simp [runStep, stepL, oneTerm, h, keepC, Ty.eq_self]
theorem step_refl {made : List Th} {cs : Cs2} {t : Tm} {s : Ty} (h : checked cs t = some s) (ht : typeOf t = some s) : runStep (made, cs) (.refl t) = some (made ++ [⟨[], eqT s t t⟩], cs) := by
 simp [runStep, stepL, oneTerm, h, ht, keepC]
theorem step_two {made : List Th} {cs : Cs2} {k : K2} {i j : Int} {l r t : Th} (hl : getTh made i = some l) (hr : getTh made j = some r) (h : twoTh k l r = some t) : runStep (made, cs) (.two k i j) = some (made ++ [t], cs) := by
 simp [runStep, stepL, hl, hr, h, keepC]
theorem step_two_none {made : List Th} {cs : Cs2} {k : K2} {i j : Int} {l r : Th} (hl : getTh made i = some l) (hr : getTh made j = some r) (h : twoTh k l r = none) : runStep (made, cs) (.two k i j) = none := by
 simp [runStep, stepL, hl, hr, h, keepC]
theorem step_types {made : List Th} {cs : Cs2} {ps : List Tp} {i : Int} {l t : Th} (hl : getTh made i = some l) (h : withTh ps l = some t) : runStep (made, cs) (.insttype ps i) = some (made ++ [t], cs) := by
 simp [runStep, stepL, hl, h, keepC]
theorem step_types_none {made : List Th} {cs : Cs2} {ps : List Tp} {i : Int} {l : Th} (hl : getTh made i = some l) (h : withTh ps l = none) : runStep (made, cs) (.insttype ps i) = none := by
 simp [runStep, stepL, hl, h, keepC]
theorem getTh_nat {made : List Th} {i : Nat} {t : Th} (h : made[i]? = some t) : getTh made (i : Int) = some t := by
 have := (List.getElem?_eq_some_iff.mp h).1
 unfold getTh
 rw [if_neg (by lia), Int.toNat_natCast, h]
theorem runs2 (f : Fo) (x : Bs) (κ : Ty) (g : Fo) (y : Bs) (μ : Ty) (tu ps : List Tp) (j : Nat) (hj : j < 3) (hκ : κ.dp ≤ 5) (hμ : μ.dp ≤ 5) (hκ' : (tyPut tu κ).dp ≤ 5) (hμ' : (tyPut tu μ).dp ≤ 5) (hκe : (tyPut ps κ).dp ≤ 5) (hμe : (tyPut ps μ).dp ≤ 5)
  (htu : (tyPut tu κ).eq (tyPut tu μ) = κ.eq μ) (hb1 : tyPut tu (tyPut tu κ) = κ) (hb2 : tyPut tu (tyPut tu μ) = μ) (hd1 : ∀ p ∈ tu, p.2.dp ≤ 20) (hd2 : ∀ p ∈ ps, p.2.dp ≤ 20) :
  Runs (headD, headC) (steps2 f x κ g y μ tu ps j) (if x.same y && !(κ.eq μ) && (tyPut ps κ).eq (tyPut ps μ) then none
   else some (due2 f x κ g y μ tu (!(same2 f x κ g y μ)) ++ [madeT f x (tyPut ps κ) g y (tyPut ps μ) (!(same2 f x κ g y μ)) j], headC)) := by
 have hK : lookC .K headC = some .bool := rfl
 have cb : checked headC (bothOf f x κ g y μ) = some .bool := by
  unfold checked bothOf
  rw [show ckCons headC (eqT .bool (fm f x κ) (fm g y μ)) = true by simp [eqT, Z55, Z56, Z57, Z58, Cn.same_self, ck_fm headC f x κ hK, ck_fm headC g y μ hK], if_pos rfl, type_eqT _ _ _ (type_fm ..) (type_fm ..)]
 have tb : typeOf (bothOf f x κ g y μ) = some .bool := type_eqT _ _ _ (type_fm ..) (type_fm ..)
 have mo1 : MoTh ⟨[fm f x κ], fm f x κ⟩ := ⟨fun q hq => by simp at hq; subst hq; exact mo_fm' f x κ (by exact Bd.wk hκ rfl), mo_fm' f x κ (by exact Bd.wk hκ rfl), by simp⟩
 have mo2 : MoTh ⟨[fm g y μ], fm g y μ⟩ := ⟨fun q hq => by simp at hq; subst hq; exact mo_fm' g y μ (by exact Bd.wk hμ rfl), mo_fm' g y μ (by exact Bd.wk hμ rfl), by simp⟩
 obtain ⟨b1, b2, b3, b4⟩ := mo_both f x κ g y μ (by exact Bd.wk hκ rfl) (by exact Bd.wk hμ rfl)
 have mob : Mo (bothOf f x κ g y μ) := ⟨by exact Bd.wk b1 rfl, by exact Bd.wk b2 rfl, by exact Bd.wk b3 rfl, by exact Bd.z0 b4⟩
 have w5 : withTh tu (madeT f x κ g y μ (!(same2 f x κ g y μ)) 1) = some (madeT f x (tyPut tu κ) g y (tyPut tu μ) (!(same2 f x κ g y μ)) 1) := by
  rw [with_made, htu]
  cases x.same y <;> cases κ.eq μ <;> rfl
 have w7 : withTh tu (madeT f x (tyPut tu κ) g y (tyPut tu μ) (!(same2 f x κ g y μ)) 1) = some (madeT f x κ g y μ (!(same2 f x κ g y μ)) 1) := by
  rw [with_made, hb1, hb2, htu]
  cases x.same y <;> cases κ.eq μ <;> rfl
 generalize hap : (!(same2 f x κ g y μ)) = ap at *
 have an := antisym_fm f x κ g y μ
 have em := eqmp_fm f x κ g y μ
 rw [hap] at an em
 unfold steps2
 refine .cons (step_assume (checked_fm headC f x κ hK)) (mo_fm' f x κ (by exact Bd.wk hκ rfl)) (mo_snoc mo_headD mo1) ?_
 refine .cons (step_assume (checked_fm headC g y μ hK)) (mo_fm' g y μ (by exact Bd.wk hμ rfl)) (mo_snoc (mo_snoc mo_headD mo1) mo2) ?_
 refine .cons (step_two (l := ⟨[fm f x κ], fm f x κ⟩) (r := ⟨[fm g y μ], fm g y μ⟩) (getTh_nat (i := 2) rfl) (getTh_nat (i := 3) rfl) an) trivial (mo_snoc (mo_snoc (mo_snoc mo_headD mo1) mo2) (mo_made f x κ g y μ ap 0 (by exact Bd.wk hκ rfl) (by exact Bd.wk hμ rfl))) ?_
 refine .cons (step_two (l := madeT f x κ g y μ ap 0) (r := ⟨[fm f x κ], fm f x κ⟩) (getTh_nat (i := 4) rfl) (getTh_nat (i := 2) rfl) em) trivial (mo_snoc (mo_snoc (mo_snoc (mo_snoc mo_headD mo1) mo2) (mo_made f x κ g y μ ap 0 (by exact Bd.wk hκ rfl) (by exact Bd.wk hμ rfl))) (mo_made f x κ g y μ ap 1 (by exact Bd.wk hκ rfl) (by exact Bd.wk hμ rfl))) ?_
 refine .cons (step_refl cb tb) mob (mo_snoc (mo_snoc (mo_snoc (mo_snoc (mo_snoc mo_headD mo1) mo2) (mo_made f x κ g y μ ap 0 (by exact Bd.wk hκ rfl) (by exact Bd.wk hμ rfl))) (mo_made f x κ g y μ ap 1 (by exact Bd.wk hκ rfl) (by exact Bd.wk hμ rfl))) (mo_made f x κ g y μ ap 2 (by exact Bd.wk hκ rfl) (by exact Bd.wk hμ rfl))) ?_
 refine .cons (step_types (l := madeT f x κ g y μ ap 1) (getTh_nat (i := 5) rfl) w5) hd1 (mo_snoc (mo_snoc (mo_snoc (mo_snoc (mo_snoc (mo_snoc mo_headD mo1) mo2) (mo_made f x κ g y μ ap 0 (by exact Bd.wk hκ rfl) (by exact Bd.wk hμ rfl))) (mo_made f x κ g y μ ap 1 (by exact Bd.wk hκ rfl) (by exact Bd.wk hμ rfl))) (mo_made f x κ g y μ ap 2 (by exact Bd.wk hκ rfl) (by exact Bd.wk hμ rfl))) (mo_made f x (tyPut tu κ) g y (tyPut tu μ) ap 1 (by exact Bd.wk hκ' rfl) (by exact Bd.wk hμ' rfl))) ?_
 refine .cons (step_types (l := madeT f x (tyPut tu κ) g y (tyPut tu μ) ap 1) (getTh_nat (i := 7) rfl) w7) hd1 (mo_snoc (mo_snoc (mo_snoc (mo_snoc (mo_snoc (mo_snoc (mo_snoc mo_headD mo1) mo2) (mo_made f x κ g y μ ap 0 (by exact Bd.wk hκ rfl) (by exact Bd.wk hμ rfl))) (mo_made f x κ g y μ ap 1 (by exact Bd.wk hκ rfl) (by exact Bd.wk hμ rfl))) (mo_made f x κ g y μ ap 2 (by exact Bd.wk hκ rfl) (by exact Bd.wk hμ rfl))) (mo_made f x (tyPut tu κ) g y (tyPut tu μ) ap 1 (by exact Bd.wk hκ' rfl) (by exact Bd.wk hμ' rfl))) (mo_made f x κ g y μ ap 1 (by exact Bd.wk hκ rfl) (by exact Bd.wk hμ rfl))) ?_
 have hwe := with_made ps f x κ g y μ ap j
 have hcast : (4 : Int) + (j : Int) = ((4 + j : Nat) : Int) := by lia
 rw [hcast]
 have hget : ∀ (l : List Th), l = (((((((headD ++ [⟨[fm f x κ], fm f x κ⟩]) ++ [⟨[fm g y μ], fm g y μ⟩]) ++ [madeT f x κ g y μ ap 0]) ++ [madeT f x κ g y μ ap 1]) ++ [⟨[], eqT .bool (bothOf f x κ g y μ) (bothOf f x κ g y μ)⟩]) ++ [madeT f x (tyPut tu κ) g y (tyPut tu μ) ap 1]) ++ [madeT f x κ g y μ ap 1]) → l[4 + j]? = some (madeT f x κ g y μ ap j) := by
  rintro l rfl
  match j, hj with
  | 0, _ => rfl
  | 1, _ => rfl
  | 2, _ => rfl
 cases hc : (x.same y && !(κ.eq μ) && (tyPut ps κ).eq (tyPut ps μ)) with
 | true =>
  rw [hc] at hwe
  exact .stop (step_types_none (getTh_nat (hget _ rfl)) hwe) hd2
 | false =>
  rw [hc] at hwe
  refine .cons (step_types (getTh_nat (hget _ rfl)) hwe) hd2 (mo_snoc (mo_snoc (mo_snoc (mo_snoc (mo_snoc (mo_snoc (mo_snoc (mo_snoc mo_headD mo1) mo2) (mo_made f x κ g y μ ap 0 (by exact Bd.wk hκ rfl) (by exact Bd.wk hμ rfl))) (mo_made f x κ g y μ ap 1 (by exact Bd.wk hκ rfl) (by exact Bd.wk hμ rfl))) (mo_made f x κ g y μ ap 2 (by exact Bd.wk hκ rfl) (by exact Bd.wk hμ rfl))) (mo_made f x (tyPut tu κ) g y (tyPut tu μ) ap 1 (by exact Bd.wk hκ' rfl) (by exact Bd.wk hμ' rfl))) (mo_made f x κ g y μ ap 1 (by exact Bd.wk hκ rfl) (by exact Bd.wk hμ rfl))) (mo_made f x (tyPut ps κ) g y (tyPut ps μ) ap j (by exact Bd.wk hκe rfl) (by exact Bd.wk hμe rfl))) ?_
  have e : due2 f x κ g y μ tu ap ++ [madeT f x (tyPut ps κ) g y (tyPut ps μ) ap j] = (((((((headD ++ [⟨[fm f x κ], fm f x κ⟩]) ++ [⟨[fm g y μ], fm g y μ⟩]) ++ [madeT f x κ g y μ ap 0]) ++ [madeT f x κ g y μ ap 1]) ++ [⟨[], eqT .bool (bothOf f x κ g y μ) (bothOf f x κ g y μ)⟩]) ++ [madeT f x (tyPut tu κ) g y (tyPut tu μ) ap 1]) ++ [madeT f x κ g y μ ap 1]) ++ [madeT f x (tyPut ps κ) g y (tyPut ps μ) ap j] := by
   simp [due2, madeT]
  rw [e]
  exact .nil _
noncomputable def kindL (A B : Ty) : List Ty := [A, B, .any .c, .bool, .fn A B]
noncomputable def foL : List Fo := [.id, .cst, .bare]
noncomputable def shown : Fo → Bs → Str
 | .id, _ => st 34
 | .cst, _ => st 34
 | .bare, x => nm x 0
noncomputable def eDesc (f : Fo) (x : Bs) (κ : Ty) : PyData := .tuple [.int f.i, eTy κ, .str (shown f x)]
noncomputable def eOne (f : Fo) (x : Bs) (κ : Ty) : PyData := .tuple [eTm (fm f x κ), eDesc f x κ, eTy κ]
noncomputable def eRw (x : Bs) (κ : Ty) (f : Fo) : PyData := .tuple [eTm (term f x κ), eTy (whole f κ), .str (shown f x)]
theorem call_law_one (n : Nat) (σ : Store) (x : Bs) (k : Int) (i : Nat) (f : Fo) (A B κ : Ty) (hk : Int.fmod k 5 = i) (hi : i < 5) (hκ : (kindL A B)[i]? = some κ) :
  CF (n + 2) 35 [.d (.str (nm x 0)), .d (.int k), .d (.int f.i), .d (eTy A), .d (eTy B)] σ = .ok (.d (eOne f x κ)) σ := by
 show close σ.length (exSs G (CF (n + 1)) b35 [Dv (.str (nm x 0)), Iv k, Dv (.int f.i), Dv (eTy A), Dv (eTy B), none, none, none, none, none, none] σ) = _
 have h1 := idx_listE eTy (kindL A B) i hκ (by exact Bd.ll hi rfl)
 have e1 : (kindL A B).map eTy = [eTy A, eTy B, .tuple [.str (st 10), .str (st 33)], eTy .bool, .tuple [.str (st 2), eTy A, eTy B]] := rfl
 rw [e1] at h1
 have h2 := idx_listE (eRw x κ) foL f.i (a := f) (by cases f <;> rfl) (by cases f <;> decide)
 have e2 : foL.map (eRw x κ) = [.tuple [.tuple [.str (st 6), .tuple [.str (st 3), .str (nm x 0), eTy κ], .tuple [.str (st 3), .str (nm x 0), eTy κ]], .tuple [.str (st 2), eTy κ, eTy κ], .str (st 34)], .tuple [.tuple [.str (st 6), .tuple [.str (st 3), .str (nm x 0), eTy κ], eTm tK], .tuple [.str (st 2), eTy κ, eTy .bool], .str (st 34)], .tuple [.tuple [.str (st 3), .str (nm x 0), eTy κ], eTy κ, .str (nm x 0)]] := rfl
 rw [e2] at h2
 have h3 := call_law_eq n σ (whole f κ) (term f x κ) (term f x κ)
 simp only [EV, b35, mod_int _ 5 (by decide), hk, h1, G1, G9, h2, eRw, h3]
 rfl
theorem st_nm (x : Bs) : (st 34 == nm x 0) = false ∧ (nm x 0 == st 34) = false := by cases x <;> exact ⟨by decide, by decide⟩
theorem eqv_desc (f : Fo) (x : Bs) (κ : Ty) (g : Fo) (y : Bs) (μ : Ty) : PyData.eqv (eDesc f x κ) (eDesc g y μ) = same2 f x κ g y μ := by
 have h1 := (st_nm x).2
 have h2 := (st_nm y).1
 cases f <;> cases g <;> simp [eDesc, same2, shown, Fo.i, ev_tup, ea_cons, ea_nil, ev_int, ev_str, eqv_ty, nm_eq]
theorem depth_desc (f : Fo) (x : Bs) (κ : Ty) (h : κ.dp ≤ 60) : (eDesc f x κ).depth ≤ 100 := by
 have := depth_ty κ
 simp only [eDesc, PyData.depth, PyData.depthAll]; (apply Bd.sc; (apply Bd.mx <;> (first | exact Bd.zz | (with_reducible apply Bd.mx <;> (first | exact Bd.t1 this h rfl | (with_reducible apply Bd.mx <;> exact Bd.zz))))))
theorem cmp_desc (f : Fo) (x : Bs) (κ : Ty) (g : Fo) (y : Bs) (μ : Ty) (h : κ.dp ≤ 60) : cmpD .eq (eDesc f x κ) (eDesc g y μ) = some (.bool (same2 f x κ g y μ)) := by
 have := depth_desc f x κ h
 refine cmpD_is _ _ _ ?_
 rw [cmp_e, if_pos (.inr (by simp only [dlim]; exact Bd.wk this rfl)), eqv_desc]
theorem cmp_desc_ne (f : Fo) (x : Bs) (κ : Ty) (g : Fo) (y : Bs) (μ : Ty) (h : κ.dp ≤ 60) : cmpD .ne (eDesc f x κ) (eDesc g y μ) = some (.bool (!(same2 f x κ g y μ))) := by
 have := depth_desc f x κ h
 refine cmpD_is _ _ _ ?_
 rw [cmp_n, if_pos (.inr (by simp only [dlim]; exact Bd.wk this rfl)), eqv_desc]
theorem cmp_ty_nq {a b : Ty} (h : a.dp ≤ 60) : cmpD .ne (eTy a) (eTy b) = some (.bool (!(a.eq b))) := cmpD_is _ _ _ (cmp_ty_ne (by exact Bd.wk h rfl))
theorem cmp_ty_eq {a b : Ty} (h : a.dp ≤ 60) : cmpD .eq (eTy a) (eTy b) = some (.bool (a.eq b)) := cmpD_is _ _ _ (cmp_ty (by exact Bd.wk h rfl))
theorem call_law_made (n : Nat) (σ : Store) (f : Fo) (x : Bs) (κ : Ty) (g : Fo) (y : Bs) (μ : Ty) (ap : Bool) (w : Nat) (hw : w < 3) (h : κ.dp ≤ 60) :
  CF (n + 2) 36 [.d (eOne f x κ), .d (eOne g y μ), .d (.bool ap), .d (.int w)] σ = .ok (.d (eTh (madeT f x κ g y μ ap w))) σ := by
 show close σ.length (exSs G (CF (n + 1)) b36 [Dv (eOne f x κ), Dv (eOne g y μ), Dv (.bool ap), Iv w, none, none, none] σ) = _
 have h1 := call_law_eq n σ .bool (fm f x κ) (fm g y μ)
 have h2 := call_law_eq n σ .bool (bothOf f x κ g y μ) (bothOf f x κ g y μ)
 have h3 := cmp_desc f x κ g y μ h
 have h4 := idx_listE eTh [madeT f x κ g y μ ap 0, madeT f x κ g y μ ap 1, madeT f x κ g y μ ap 2] w (a := madeT f x κ g y μ ap w) (by match w, hw with | 0, _ => rfl | 1, _ => rfl | 2, _ => rfl) (by exact Bd.ll hw rfl)
 have e4 : ∀ (hs bare : List Tm), hs = hypsOf f x κ g y μ → bare = (if ap then hypsOf f x κ g y μ else []) → [madeT f x κ g y μ ap 0, madeT f x κ g y μ ap 1, madeT f x κ g y μ ap 2].map eTh = [.tuple [.tuple (bare.map eTm), eTm (eqT .bool (fm f x κ) (fm g y μ))], .tuple [.tuple (hs.map eTm), eTm (fm g y μ)], .tuple [.tuple [], eTm (eqT .bool (bothOf f x κ g y μ) (bothOf f x κ g y μ))]] := by
  rintro _ _ rfl rfl; rfl
 have hb : eTm (eqT .bool (fm f x κ) (fm g y μ)) = eTm (bothOf f x κ g y μ) := rfl
 cases hs : same2 f x κ g y μ with
 | true =>
  rw [hs] at h3
  have hh : [fm f x κ] = hypsOf f x κ g y μ := by simp [hypsOf, hs]
  cases ap with
  | true =>
   rw [e4 _ [fm f x κ] hh (by rw [if_pos rfl]; exact hh)] at h4
   simp only [List.map_cons, List.map_nil, hb] at h4
   simp only [EV, b36, eOne, h3, G1, h1, hb, h2, h4]
  | false =>
   rw [e4 _ [] hh (by simp)] at h4
   simp only [List.map_cons, List.map_nil, hb] at h4
   simp only [EV, b36, eOne, h3, G1, h1, hb, h2, h4]
 | false =>
  rw [hs] at h3
  have hh : [fm f x κ, fm g y μ] = hypsOf f x κ g y μ := by simp [hypsOf, hs]
  cases ap with
  | true =>
   rw [e4 _ [fm f x κ, fm g y μ] hh (by rw [if_pos rfl]; exact hh)] at h4
   simp only [List.map_cons, List.map_nil, hb] at h4
   simp only [EV, b36, eOne, h3, G1, h1, hb, h2, h4]
  | false =>
   rw [e4 _ [] hh (by simp)] at h4
   simp only [List.map_cons, List.map_nil, hb] at h4
   simp only [EV, b36, eOne, h3, G1, h1, hb, h2, h4]
noncomputable def b37a : List S := [.assign (.tup [(.var 9), (.var 10)]) (.tup [(.tup [(Qs 10), (Qs 35)]), (.tup [(Qs 10), (Qs 36)])]), .assign (.var 11) (.lst [(.glob 1), (.var 9), (.var 10), (.tup [(Qs 10), (Qs 33)])]), .assign (.tup [(.var 12), (.var 13)]) (.tup [(.idx (.var 11) (.bin .mod (.var 6) (Qi 4))), (.idx (.var 11) (.bin .mod (.var 7) (Qi 4)))]), .assign (.tup [(.var 14), (.var 15)]) (.tup [(.idx (.lst [(Qs 22), (Qs 23)]) (.bin .mod (.var 0) (Qi 2))), (.idx (.lst [(Qs 22), (Qs 23)]) (.bin .mod (.var 1) (Qi 2)))])]
noncomputable def b37b : List S := [.assign (.tup [(.var 16), (.var 17)]) (.tup [(.call 35 [(.var 14), (.var 2), (.bin .mod (.var 4) (Qi 3)), (.var 9), (.var 10)]), (.call 35 [(.var 15), (.var 3), (.bin .mod (.var 5) (Qi 3)), (.var 9), (.var 10)])]), .assign (.tup [(.var 18), (.var 19)]) (.tup [(.call 35 [(.var 14), (.var 2), (.bin .mod (.var 4) (Qi 3)), (.var 10), (.var 9)]), (.call 35 [(.var 15), (.var 3), (.bin .mod (.var 5) (Qi 3)), (.var 10), (.var 9)])]), .assign (.tup [(.var 20), (.var 21)]) (.tup [(.call 35 [(.var 14), (.var 2), (.bin .mod (.var 4) (Qi 3)), (.var 12), (.var 13)]), (.call 35 [(.var 15), (.var 3), (.bin .mod (.var 5) (Qi 3)), (.var 12), (.var 13)])])]
noncomputable def b37c : List S := [.assign (.var 22) (.cmp .ne (Qx 16 1) (Qx 17 1)), .assign (.var 23) (.call 27 [(.glob 1), (Qx 16 0), (Qx 17 0)]), .assign (.var 24) (.tup [(.tup [(Qs 35), (.var 10)]), (.tup [(Qs 36), (.var 9)])]), .assign (.tup [(.var 25), (.var 26)]) (.call 29 [])]
noncomputable def b37d : List S := [.assign (.var 25) (.bin .add (.var 25) (.lst [(.tup [(Qs 12), (Qx 16 0)]), (.tup [(Qs 12), (Qx 17 0)]), (.tup [(Qs 13), (Qi 2), (Qi 3)]), (.tup [(Qs 14), (Qi 4), (Qi 2)]), (.tup [(Qs 11), (.var 23)])])), .assign (.var 25) (.bin .add (.var 25) (.lst [(.tup [(Qs 18), (.var 24), (Qi 5)]), (.tup [(Qs 18), (.var 24), (Qi 7)]), (.tup [(Qs 18), (.tup [(.tup [(Qs 35), (.var 12)]), (.tup [(Qs 36), (.var 13)])]), (.bin .add (Qi 4) (.bin .mod (.var 8) (Qi 3)))])]))]
noncomputable def b37e : List S := [.assign (.var 27) (.call 36 [(.var 16), (.var 17), (.var 22), (Qi 1)]), .assign (.var 26) (.bin .add (.var 26) (.lst [(.tup [(.tup [(Qx 16 0)]), (Qx 16 0)]), (.tup [(.tup [(Qx 17 0)]), (Qx 17 0)]), (.call 36 [(.var 16), (.var 17), (.var 22), (Qi 0)]), (.var 27)])), .assign (.var 26) (.bin .add (.var 26) (.lst [(.call 36 [(.var 16), (.var 17), (.var 22), (Qi 2)]), (.call 36 [(.var 18), (.var 19), (.var 22), (Qi 1)]), (.var 27), (.call 36 [(.var 20), (.var 21), (.var 22), (.bin .mod (.var 8) (Qi 3))])]))]
noncomputable def b37f : List S := [.assign (.var 28) (.var 26), .ite (.and [(.cmp .eq (.var 14) (.var 15)), (.cmp .ne (Qx 16 2) (Qx 17 2)), (.cmp .eq (Qx 20 2) (Qx 21 2))]) [.assign (.var 28) (.con .none)] [], .ite (.cmp .ne (.call 28 [(.toTup (.var 25))]) (.var 28)) [.ret (.con (.bool false))] [], .ret (.con (.bool true))]
theorem b37_is : b37 = b37a ++ (b37b ++ (b37c ++ (b37d ++ (b37e ++ (b37f))))) := rfl
noncomputable def endL : List Ty := [.bool, .any .a, .any .b, .any .c]
noncomputable def nmL : List Bs := [.x, .y]
noncomputable def eNm (x : Bs) : PyData := .str (nm x 0)
noncomputable def tuL : List Tp := [(.a, .any .b), (.b, .any .a)]
noncomputable def duF (f : Fo) (x : Bs) (κ : Ty) (g : Fo) (y : Bs) (μ κt μt : Ty) (ap : Bool) : List Th :=
 headD ++ [⟨[fm f x κ], fm f x κ⟩, ⟨[fm g y μ], fm g y μ⟩, madeT f x κ g y μ ap 0, madeT f x κ g y μ ap 1, madeT f x κ g y μ ap 2, madeT f x κt g y μt ap 1, madeT f x κ g y μ ap 1]
theorem types_a (n : Nat) (a0 a1 a2 a3 a4 a5 a6 a7 a8 : Int) (σ : Store) (i1 i2 i3 i4 : Nat) (s t : Ty) (x y : Bs) (h1 : Int.fmod a6 4 = i1) (h2 : Int.fmod a7 4 = i2) (h3 : Int.fmod a0 2 = i3) (h4 : Int.fmod a1 2 = i4)
  (g1 : endL[i1]? = some s) (g2 : endL[i2]? = some t) (g3 : nmL[i3]? = some x) (g4 : nmL[i4]? = some y) (l1 : i1 < 4) (l2 : i2 < 4) (l3 : i3 < 2) (l4 : i4 < 2) :
  exSs G (CF n) b37a [Iv a0, Iv a1, Iv a2, Iv a3, Iv a4, Iv a5, Iv a6, Iv a7, Iv a8, none, none, none, none, none, none, none, none, none, none, none, none, none, none, none, none, none, none, none, none] σ =
  .next [Iv a0, Iv a1, Iv a2, Iv a3, Iv a4, Iv a5, Iv a6, Iv a7, Iv a8, Dv (eTy (.any .a)), Dv (eTy (.any .b)), Dv (.list (endL.map eTy)), Dv (eTy s), Dv (eTy t), Dv (.str (nm x 0)), Dv (.str (nm y 0)), none, none, none, none, none, none, none, none, none, none, none, none, none] σ := by
 have k1 := idx_listE eTy endL i1 g1 (by exact Bd.ll l1 rfl)
 have k2 := idx_listE eTy endL i2 g2 (by exact Bd.ll l2 rfl)
 have k3 := idx_listE eNm nmL i3 g3 (by exact Bd.ll l3 rfl)
 have k4 := idx_listE eNm nmL i4 g4 (by exact Bd.ll l4 rfl)
 have e1 : endL.map eTy = [eTy .bool, .tuple [.str (st 10), .str (st 35)], .tuple [.str (st 10), .str (st 36)], .tuple [.str (st 10), .str (st 33)]] := rfl
 have e3 : nmL.map eNm = [.str (st 22), .str (st 23)] := rfl
 rw [e1] at k1 k2
 rw [e3] at k3 k4
 simp only [EV, b37a, mod_int _ 4 (by decide), mod_int _ 2 (by decide), h1, h2, h3, h4, G1, k1, k2, k3, k4, eNm]
 rfl
theorem types_b (n : Nat) (a0 a1 a2 a3 a4 a5 a6 a7 a8 : Int) (σ : Store) (i1 i2 i3 i4 : Nat) (s t : Ty) (x y : Bs) (f g : Fo) (κ κt κe μ μt μe : Ty) (h1 : Int.fmod a2 5 = i1) (h2 : Int.fmod a3 5 = i2) (l1 : i1 < 5) (l2 : i2 < 5) (h3 : Int.fmod a4 3 = f.i) (h4 : Int.fmod a5 3 = g.i)
  (q1 : (kindL (.any .a) (.any .b))[i1]? = some κ) (q2 : (kindL (.any .b) (.any .a))[i1]? = some κt) (q3 : (kindL s t)[i1]? = some κe)
  (r1 : (kindL (.any .a) (.any .b))[i2]? = some μ) (r2 : (kindL (.any .b) (.any .a))[i2]? = some μt) (r3 : (kindL s t)[i2]? = some μe) :
  exSs G (CF (n + 2)) b37b [Iv a0, Iv a1, Iv a2, Iv a3, Iv a4, Iv a5, Iv a6, Iv a7, Iv a8, Dv (eTy (.any .a)), Dv (eTy (.any .b)), Dv (.list (endL.map eTy)), Dv (eTy s), Dv (eTy t), Dv (.str (nm x 0)), Dv (.str (nm y 0)), none, none, none, none, none, none, none, none, none, none, none, none, none] σ =
  .next [Iv a0, Iv a1, Iv a2, Iv a3, Iv a4, Iv a5, Iv a6, Iv a7, Iv a8, Dv (eTy (.any .a)), Dv (eTy (.any .b)), Dv (.list (endL.map eTy)), Dv (eTy s), Dv (eTy t), Dv (.str (nm x 0)), Dv (.str (nm y 0)), Dv (eOne f x κ), Dv (eOne g y μ), Dv (eOne f x κt), Dv (eOne g y μt), Dv (eOne f x κe), Dv (eOne g y μe), none, none, none, none, none, none, none] σ := by
 have k1 := call_law_one n σ x a2 i1 f _ _ κ h1 l1 q1
 have k2 := call_law_one n σ x a2 i1 f _ _ κt h1 l1 q2
 have k3 := call_law_one n σ x a2 i1 f _ _ κe h1 l1 q3
 have m1 := call_law_one n σ y a3 i2 g _ _ μ h2 l2 r1
 have m2 := call_law_one n σ y a3 i2 g _ _ μt h2 l2 r2
 have m3 := call_law_one n σ y a3 i2 g _ _ μe h2 l2 r3
 simp only [EV, b37b, mod_int _ 3 (by decide), h3, h4, k1, k2, k3, m1, m2, m3]
theorem types_c (n : Nat) (a0 a1 a2 a3 a4 a5 a6 a7 a8 : Int) (σ : Store) (s t : Ty) (x y : Bs) (f g : Fo) (κ κt κe μ μt μe : Ty) (hd : κ.dp ≤ 60) :
  exSs G (CF (n + 2)) b37c [Iv a0, Iv a1, Iv a2, Iv a3, Iv a4, Iv a5, Iv a6, Iv a7, Iv a8, Dv (eTy (.any .a)), Dv (eTy (.any .b)), Dv (.list (endL.map eTy)), Dv (eTy s), Dv (eTy t), Dv (.str (nm x 0)), Dv (.str (nm y 0)), Dv (eOne f x κ), Dv (eOne g y μ), Dv (eOne f x κt), Dv (eOne g y μt), Dv (eOne f x κe), Dv (eOne g y μe), none, none, none, none, none, none, none] σ =
  .next [Iv a0, Iv a1, Iv a2, Iv a3, Iv a4, Iv a5, Iv a6, Iv a7, Iv a8, Dv (eTy (.any .a)), Dv (eTy (.any .b)), Dv (.list (endL.map eTy)), Dv (eTy s), Dv (eTy t), Dv (.str (nm x 0)), Dv (.str (nm y 0)), Dv (eOne f x κ), Dv (eOne g y μ), Dv (eOne f x κt), Dv (eOne g y μt), Dv (eOne f x κe), Dv (eOne g y μe), Dv (.bool (!(same2 f x κ g y μ))), Dv (eTm (bothOf f x κ g y μ)), Dv (.tuple (tuL.map eTp)), Dv (.list (headS.map eStp)), Dv (.list (headD.map eTh)), none, none] σ := by
 have h1 := call_law_eq (n + 1) σ .bool (fm f x κ) (fm g y μ)
 have h2 := call_law_head n σ
 have h3 := cmp_desc_ne f x κ g y μ hd
 simp only [EV, b37c, eOne, h1, h2, h3, G1]
 rfl
theorem types_d (n : Nat) (a0 a1 a2 a3 a4 a5 a6 a7 a8 : Int) (σ : Store) (s t : Ty) (x y : Bs) (f g : Fo) (κ κt κe μ μt μe : Ty) (j : Nat) (hj : Int.fmod a8 3 = j) :
  exSs G (CF n) b37d [Iv a0, Iv a1, Iv a2, Iv a3, Iv a4, Iv a5, Iv a6, Iv a7, Iv a8, Dv (eTy (.any .a)), Dv (eTy (.any .b)), Dv (.list (endL.map eTy)), Dv (eTy s), Dv (eTy t), Dv (.str (nm x 0)), Dv (.str (nm y 0)), Dv (eOne f x κ), Dv (eOne g y μ), Dv (eOne f x κt), Dv (eOne g y μt), Dv (eOne f x κe), Dv (eOne g y μe), Dv (.bool (!(same2 f x κ g y μ))), Dv (eTm (bothOf f x κ g y μ)), Dv (.tuple (tuL.map eTp)), Dv (.list (headS.map eStp)), Dv (.list (headD.map eTh)), none, none] σ =
  .next [Iv a0, Iv a1, Iv a2, Iv a3, Iv a4, Iv a5, Iv a6, Iv a7, Iv a8, Dv (eTy (.any .a)), Dv (eTy (.any .b)), Dv (.list (endL.map eTy)), Dv (eTy s), Dv (eTy t), Dv (.str (nm x 0)), Dv (.str (nm y 0)), Dv (eOne f x κ), Dv (eOne g y μ), Dv (eOne f x κt), Dv (eOne g y μt), Dv (eOne f x κe), Dv (eOne g y μe), Dv (.bool (!(same2 f x κ g y μ))), Dv (eTm (bothOf f x κ g y μ)), Dv (.tuple (tuL.map eTp)), some (.d (.list ((headS ++ steps2 f x κ g y μ tuL [(.a, s), (.b, t)] j).map eStp))), Dv (.list (headD.map eTh)), none, none] σ := by
 have hb : binOp .add (.int 4) (.int (j : Int)) = some (.int (4 + (j : Int))) := rfl
 simp only [EV, b37d, eOne, mod_int _ 3 (by decide), hj, hb]
 simp only [EV, headS, List.map_cons, List.map_nil, bin_small, List.cons_append, List.nil_append, Nat.reduceLeDiff, mod_int _ 3 (by decide), hj, hb]
 rfl
theorem types_e (n : Nat) (a0 a1 a2 a3 a4 a5 a6 a7 a8 : Int) (σ : Store) (s t : Ty) (x y : Bs) (f g : Fo) (κ κt κe μ μt μe : Ty) (j : Nat) (hj : Int.fmod a8 3 = j) (lj : j < 3) (hd : κ.dp ≤ 60) (hdt : κt.dp ≤ 60) (hde : κe.dp ≤ 60) :
  exSs G (CF (n + 2)) b37e [Iv a0, Iv a1, Iv a2, Iv a3, Iv a4, Iv a5, Iv a6, Iv a7, Iv a8, Dv (eTy (.any .a)), Dv (eTy (.any .b)), Dv (.list (endL.map eTy)), Dv (eTy s), Dv (eTy t), Dv (.str (nm x 0)), Dv (.str (nm y 0)), Dv (eOne f x κ), Dv (eOne g y μ), Dv (eOne f x κt), Dv (eOne g y μt), Dv (eOne f x κe), Dv (eOne g y μe), Dv (.bool (!(same2 f x κ g y μ))), Dv (eTm (bothOf f x κ g y μ)), Dv (.tuple (tuL.map eTp)), some (.d (.list ((headS ++ steps2 f x κ g y μ tuL [(.a, s), (.b, t)] j).map eStp))), Dv (.list (headD.map eTh)), none, none] σ =
  .next [Iv a0, Iv a1, Iv a2, Iv a3, Iv a4, Iv a5, Iv a6, Iv a7, Iv a8, Dv (eTy (.any .a)), Dv (eTy (.any .b)), Dv (.list (endL.map eTy)), Dv (eTy s), Dv (eTy t), Dv (.str (nm x 0)), Dv (.str (nm y 0)), Dv (eOne f x κ), Dv (eOne g y μ), Dv (eOne f x κt), Dv (eOne g y μt), Dv (eOne f x κe), Dv (eOne g y μe), Dv (.bool (!(same2 f x κ g y μ))), Dv (eTm (bothOf f x κ g y μ)), Dv (.tuple (tuL.map eTp)), some (.d (.list ((headS ++ steps2 f x κ g y μ tuL [(.a, s), (.b, t)] j).map eStp))), some (.d (.list ((duF f x κ g y μ κt μt (!(same2 f x κ g y μ)) ++ [madeT f x κe g y μe (!(same2 f x κ g y μ)) j]).map eTh))), some (.d (eTh (madeT f x κ g y μ (!(same2 f x κ g y μ)) 1))), none] σ := by
 have h0 := call_law_made n σ f x κ g y μ (!(same2 f x κ g y μ)) 0 (by decide) hd
 have h1 := call_law_made n σ f x κ g y μ (!(same2 f x κ g y μ)) 1 (by decide) hd
 have h2 := call_law_made n σ f x κ g y μ (!(same2 f x κ g y μ)) 2 (by decide) hd
 have h3 := call_law_made n σ f x κt g y μt (!(same2 f x κ g y μ)) 1 (by decide) hdt
 have h4 := call_law_made n σ f x κe g y μe (!(same2 f x κ g y μ)) j lj hde
 rw [show ((0 : Nat) : Int) = 0 from rfl] at h0
 rw [show ((1 : Nat) : Int) = 1 from rfl] at h1 h3
 rw [show ((2 : Nat) : Int) = 2 from rfl] at h2
 generalize headS ++ steps2 f x κ g y μ tuL [(.a, s), (.b, t)] j = SS
 simp only [eOne] at h0 h1 h2 h3 h4 ⊢
 simp only [EV, b37e, mod_int _ 3 (by decide), hj, h0, h1, h2, h3, h4]
 simp only [EV, headD, List.map_cons, List.map_nil, bin_small, List.cons_append, List.nil_append, Nat.reduceLeDiff, mod_int _ 3 (by decide), hj, h0, h1, h2, h3, h4]
 rfl
theorem types_f (n : Nat) (hn : 500 ≤ n) (x0 x1 x2 x3 x4 x5 x6 x7 x8 x9 x10 x11 x12 x13 x18 x19 x22 x23 x24 x27 : Option V) (σ : Store) (x y : Bs) (f g : Fo) (κ κe μ μe : Ty) (S2 : List Stp) (DU : List Th) (hd : κ.dp ≤ 60) (hde : κe.dp ≤ 60) (hS : S2.length ≤ 100)
  (hg : Good ([], []) (headS ++ S2)) (hD : ∀ th ∈ DU, MoTh th) (hr : foldO runStep ([], []) (headS ++ S2) = if x.same y && !(κ.eq μ) && κe.eq μe then none else some (DU, headC)) :
  exSs G (CF n) b37f [x0, x1, x2, x3, x4, x5, x6, x7, x8, x9, x10, x11, x12, x13, Dv (.str (nm x 0)), Dv (.str (nm y 0)), Dv (eOne f x κ), Dv (eOne g y μ), x18, x19, Dv (eOne f x κe), Dv (eOne g y μe), x22, x23, x24, Dv (.list ((headS ++ S2).map eStp)), Dv (.list (DU.map eTh)), x27, none] σ = .ret (.d (.bool true)) σ := by
 obtain ⟨m, rfl⟩ : ∃ m, n = m + 1 := ⟨n - 1, by exact Bd.pr1 hn⟩
 have h1 := call_law_try m (by exact Bd.fn hn rfl) σ (headS ++ S2) (by simp [headS]; exact Bd.wk hS rfl) hg
 have hl : ((headS ++ S2).map eStp).length ≤ 200 := by simp [headS]; exact Bd.wk hS rfl
 have h2 : toTupOp (.list ((headS ++ S2).map eStp)) = some (.tuple ((headS ++ S2).map eStp)) := toTup_is rfl (by simp only [lim]; exact Bd.wk hl rfl)
 have hc1 : cmpD .eq (.str (nm x 0)) (.str (nm y 0)) = some (.bool (x.same y)) := by rw [cmpD_str, nm_eq]; simp
 have hc2 := cmp_ty_nq (a := κ) (b := μ) hd
 have hc3 := cmp_ty_eq (a := κe) (b := μe) hde
 have hnn : cmpD .ne .none .none = some (.bool false) := ne_self (x := .none) rfl (by simp [PyData.depth])
 have hne : cmpD .ne (.list (DU.map eTh)) (.list (DU.map eTh)) = some (.bool false) := by
  refine ne_self (by simp only [Z154, Z155, Z156, Z157, Z158, Z159, Z160]; exact pln_all pln_th DU) ?_
  have := depth_all (enc := eTh) (D := 70) DU fun t ht => depth_th (hD t ht)
  simp only [PyData.depth]; exact Bd.wkc this rfl
 generalize (headS ++ S2).map eStp = SS at h1 h2 ⊢
 have e1 : run0 (headS ++ S2) = foldO runStep ([], []) (headS ++ S2) := rfl
 rw [e1, hr] at h1
 cases q1 : x.same y with
 | false =>
  rw [q1] at h1 hc1
  simp only [Bool.false_and, Bool.false_eq_true, if_false, eRun] at h1
  simp only [EV, b37f, eOne, hc1, h1, h2, hne]
 | true =>
  cases q2 : κ.eq μ with
  | true =>
   rw [q1, q2] at h1
   rw [q1] at hc1
   rw [q2] at hc2
   simp only [Bool.not_true, Bool.and_false, Bool.false_and, Bool.false_eq_true, if_false, eRun] at h1
   simp only [EV, b37f, eOne, hc1, hc2, h1, h2, hne]
  | false =>
   cases q3 : κe.eq μe with
   | true =>
    rw [q1, q2, q3] at h1
    rw [q1] at hc1
    rw [q2] at hc2
    rw [q3] at hc3
    simp only [Bool.not_false, Bool.and_self, if_true, eRun] at h1
    simp only [EV, b37f, eOne, hc1, hc2, hc3, h1, h2, hnn]
   | false =>
    rw [q1, q2, q3] at h1
    rw [q1] at hc1
    rw [q2] at hc2
    rw [q3] at hc3
    simp only [Bool.not_false, Bool.and_false, Bool.false_eq_true, if_false, eRun] at h1
    simp only [EV, b37f, eOne, hc1, hc2, hc3, h1, h2, hne]
theorem kind_put {i : Nat} (s t : Ty) {κ κe : Ty} (h1 : (kindL (.any .a) (.any .b))[i]? = some κ) (h2 : (kindL s t)[i]? = some κe) : tyPut [(.a, s), (.b, t)] κ = κe := by
 match i with
 | 0 => cases h1; cases h2; rfl
 | 1 => cases h1; cases h2; rfl
 | 2 => cases h1; cases h2; rfl
 | 3 => cases h1; cases h2; rfl
 | 4 => cases h1; cases h2; rfl
 | j + 5 => simp [kindL] at h1
theorem kind_back {i : Nat} {κ κt : Ty} (h1 : (kindL (.any .a) (.any .b))[i]? = some κ) (h2 : (kindL (.any .b) (.any .a))[i]? = some κt) : tyPut tuL κt = κ := by
 match i with
 | 0 => cases h1; cases h2; rfl
 | 1 => cases h1; cases h2; rfl
 | 2 => cases h1; cases h2; rfl
 | 3 => cases h1; cases h2; rfl
 | 4 => cases h1; cases h2; rfl
 | j + 5 => simp [kindL] at h1
theorem kind_dp {i : Nat} {s t κ : Ty} (h1 : (kindL s t)[i]? = some κ) (hs : s.dp = 0) (ht : t.dp = 0) : κ.dp ≤ 1 := by
 match i with
 | 0 => cases h1; exact Bd.z0 hs
 | 1 => cases h1; exact Bd.z0 ht
 | 2 => cases h1; simp [Z150, Z151, Z152, Z153]
 | 3 => cases h1; simp [Z150, Z151, Z152, Z153]
 | 4 => cases h1; simp only [Z150, Z151, Z152, Z153]; (apply Bd.sc; (apply Bd.mx <;> (first | exact Bd.z0 hs | exact Bd.z0 ht)))
 | j + 5 => simp [kindL] at h1
theorem end_dp {i : Nat} {s : Ty} (h : endL[i]? = some s) : s.dp = 0 := by
 match i with
 | 0 => cases h; rfl
 | 1 => cases h; rfl
 | 2 => cases h; rfl
 | 3 => cases h; rfl
 | j + 4 => simp [endL] at h
theorem fo_of {i : Nat} (h : i < 3) : ∃ f : Fo, i = f.i := by
 match i with
 | 0 => exact ⟨.id, rfl⟩
 | 1 => exact ⟨.cst, rfl⟩
 | 2 => exact ⟨.bare, rfl⟩
 | j + 3 => lia
theorem get_of {α : Type} {l : List α} {i k : Nat} (h : i < k) (hl : l.length = k) : ∃ a, l[i]? = some a := ⟨l[i]'(by lia), List.getElem?_eq_getElem _⟩
theorem call_law_types (n : Nat) (hn : 502 ≤ n) (a0 a1 a2 a3 a4 a5 a6 a7 a8 : Int) (σ : Store) : CF (n + 1) 37 [.d (.int a0), .d (.int a1), .d (.int a2), .d (.int a3), .d (.int a4), .d (.int a5), .d (.int a6), .d (.int a7), .d (.int a8)] σ = .ok (.d (.bool true)) σ := by
 obtain ⟨i0, l0, e0⟩ := fmod_nat a0 2 (by decide)
 obtain ⟨i1, l1, e1⟩ := fmod_nat a1 2 (by decide)
 obtain ⟨i2, l2, e2⟩ := fmod_nat a2 5 (by decide)
 obtain ⟨i3, l3, e3⟩ := fmod_nat a3 5 (by decide)
 obtain ⟨i4, l4, e4⟩ := fmod_nat a4 3 (by decide)
 obtain ⟨i5, l5, e5⟩ := fmod_nat a5 3 (by decide)
 obtain ⟨i6, l6, e6⟩ := fmod_nat a6 4 (by decide)
 obtain ⟨i7, l7, e7⟩ := fmod_nat a7 4 (by decide)
 obtain ⟨j, lj, ej⟩ := fmod_nat a8 3 (by decide)
 obtain ⟨x, hx⟩ := get_of (l := nmL) l0 rfl
 obtain ⟨y, hy⟩ := get_of (l := nmL) l1 rfl
 obtain ⟨s, hs⟩ := get_of (l := endL) l6 rfl
 obtain ⟨t, ht⟩ := get_of (l := endL) l7 rfl
 obtain ⟨f, rfl⟩ := fo_of l4
 obtain ⟨g, rfl⟩ := fo_of l5
 obtain ⟨κ, q1⟩ := get_of (l := kindL (.any .a) (.any .b)) l2 rfl
 obtain ⟨κt, q2⟩ := get_of (l := kindL (.any .b) (.any .a)) l2 rfl
 obtain ⟨κe, q3⟩ := get_of (l := kindL s t) l2 rfl
 obtain ⟨μ, r1⟩ := get_of (l := kindL (.any .a) (.any .b)) l3 rfl
 obtain ⟨μt, r2⟩ := get_of (l := kindL (.any .b) (.any .a)) l3 rfl
 obtain ⟨μe, r3⟩ := get_of (l := kindL s t) l3 rfl
 have ds := end_dp hs
 have dt := end_dp ht
 have dk := kind_dp q1 rfl rfl
 have dkt := kind_dp q2 rfl rfl
 have dke := kind_dp q3 ds dt
 have dm := kind_dp r1 rfl rfl
 have dmt := kind_dp r2 rfl rfl
 have dme := kind_dp r3 ds dt
 have pk : tyPut tuL κ = κt := kind_put _ _ q1 q2
 have pm : tyPut tuL μ = μt := kind_put _ _ r1 r2
 have pkt : tyPut tuL κt = κ := kind_back q1 q2
 have pmt : tyPut tuL μt = μ := kind_back r1 r2
 have pke : tyPut [(.a, s), (.b, t)] κ = κe := kind_put s t q1 q3
 have pme : tyPut [(.a, s), (.b, t)] μ = μe := kind_put s t r1 r3
 have htu : κt.eq μt = κ.eq μ := by
  rw [Bool.eq_iff_iff, Ty.eq_iff, Ty.eq_iff]
  exact ⟨fun h => by rw [← pkt, ← pmt, h], fun h => by rw [← pk, ← pm, h]⟩
 have hrun := runs2 f x κ g y μ tuL [(.a, s), (.b, t)] j lj (by exact Bd.wk dk rfl) (by exact Bd.wk dm rfl) (by rw [pk]; exact Bd.wk dkt rfl) (by rw [pm]; exact Bd.wk dmt rfl) (by rw [pke]; exact Bd.wk dke rfl) (by rw [pme]; exact Bd.wk dme rfl) (by rw [pk, pm]; exact htu) (by rw [pk, pkt]) (by rw [pm, pmt]) (fun p hp => by simp [tuL] at hp; rcases hp with rfl | rfl <;> simp [Z150, Z151, Z152, Z153]) (fun p hp => by simp at hp; rcases hp with rfl | rfl <;> simp only <;> (first | exact Bd.z0 ds | exact Bd.z0 dt))
 rw [pke, pme] at hrun
 have hrun' := runs_head hrun
 have hdu : due2 f x κ g y μ tuL (!(same2 f x κ g y μ)) = duF f x κ g y μ κt μt (!(same2 f x κ g y μ)) := by simp only [due2, duF, pk, pm]
 rw [hdu] at hrun'
 have hmo : ∀ th ∈ duF f x κ g y μ κt μt (!(same2 f x κ g y μ)) ++ [madeT f x κe g y μe (!(same2 f x κ g y μ)) j], MoTh th := by
  intro th hth
  simp only [duF, List.mem_append, List.mem_cons, List.not_mem_nil, or_false] at hth
  rcases hth with (h | rfl | rfl | rfl | rfl | rfl | rfl | rfl) | rfl
  ·exact mo_headD th h
  ·exact ⟨fun q hq => by simp at hq; subst hq; exact mo_fm' f x κ (by exact Bd.wk dk rfl), mo_fm' f x κ (by exact Bd.wk dk rfl), by simp⟩
  ·exact ⟨fun q hq => by simp at hq; subst hq; exact mo_fm' g y μ (by exact Bd.wk dm rfl), mo_fm' g y μ (by exact Bd.wk dm rfl), by simp⟩
  all_goals exact mo_made _ _ _ _ _ _ _ _ (by (first | exact Bd.wk dk rfl | exact Bd.wk dkt rfl | exact Bd.wk dke rfl)) (by (first | exact Bd.wk dm rfl | exact Bd.wk dmt rfl | exact Bd.wk dme rfl))
 obtain ⟨m, rfl⟩ : ∃ m, n = m + 2 := ⟨n - 2, by exact Bd.pr2 hn⟩
 have ha := types_a (m + 2) a0 a1 a2 a3 a4 a5 a6 a7 a8 σ i6 i7 i0 i1 s t x y e6 e7 e0 e1 hs ht hx hy l6 l7 l0 l1
 have hb := types_b m a0 a1 a2 a3 a4 a5 a6 a7 a8 σ i2 i3 0 0 s t x y f g κ κt κe μ μt μe e2 e3 l2 l3 e4 e5 q1 q2 q3 r1 r2 r3
 have hc := types_c m a0 a1 a2 a3 a4 a5 a6 a7 a8 σ s t x y f g κ κt κe μ μt μe (by exact Bd.wk dk rfl)
 have hd := types_d (m + 2) a0 a1 a2 a3 a4 a5 a6 a7 a8 σ s t x y f g κ κt κe μ μt μe j ej
 have he := types_e m a0 a1 a2 a3 a4 a5 a6 a7 a8 σ s t x y f g κ κt κe μ μt μe j ej lj (by exact Bd.wk dk rfl) (by exact Bd.wk dkt rfl) (by exact Bd.wk dke rfl)
 have hf := types_f (m + 2) (by exact Bd.lw hn rfl) (Iv a0) (Iv a1) (Iv a2) (Iv a3) (Iv a4) (Iv a5) (Iv a6) (Iv a7) (Iv a8) (Dv (eTy (.any .a))) (Dv (eTy (.any .b))) (Dv (.list (endL.map eTy))) (Dv (eTy s)) (Dv (eTy t)) (Dv (eOne f x κt)) (Dv (eOne g y μt)) (Dv (.bool (!(same2 f x κ g y μ)))) (Dv (eTm (bothOf f x κ g y μ))) (Dv (.tuple (tuL.map eTp))) (some (.d (eTh (madeT f x κ g y μ (!(same2 f x κ g y μ)) 1)))) σ x y f g κ κe μ μe (steps2 f x κ g y μ tuL [(.a, s), (.b, t)] j) (duF f x κ g y μ κt μt (!(same2 f x κ g y μ)) ++ [madeT f x κe g y μe (!(same2 f x κ g y μ)) j]) (by exact Bd.wk dk rfl) (by exact Bd.wk dke rfl) (by simp [steps2]) hrun'.good hmo hrun'.fold
 have hall := (seq_next (b := b37b ++ (b37c ++ (b37d ++ (b37e ++ b37f)))) ha).trans ((seq_next (b := b37c ++ (b37d ++ (b37e ++ b37f))) hb).trans ((seq_next (b := b37d ++ (b37e ++ b37f)) hc).trans ((seq_next (b := b37e ++ b37f) hd).trans ((seq_next (b := b37f) he).trans hf))))
 rw [call_of (fd := f37) (fr := [Iv a0, Iv a1, Iv a2, Iv a3, Iv a4, Iv a5, Iv a6, Iv a7, Iv a8, none, none, none, none, none, none, none, none, none, none, none, none, none, none, none, none, none, none, none, none]) (body := b37a ++ (b37b ++ (b37c ++ (b37d ++ (b37e ++ b37f))))) rfl rfl (by simp only [f37, List.map_cons, List.map_nil, List.cons_append, List.nil_append, Nat.reduceSub, List.replicate]) b37_is, hall, close_d, take_self]
structure Pq (p : Tm) : Prop where
 ty : typeOf p = some .bool
 ck : ckCons headC p = true
 sh : ∃ x k t L, p = .app (.var x k t) L
 dp : p.dp ≤ 10
 sz : p.sz ≤ 10
 vs : p.vs ≤ 20
 pk : p.pk ≤ 5
noncomputable abbrev tSign : Tm := .con .eq bbb
noncomputable abbrev tOdd : Tm := .app (.app (.var .eq 0 bbb) vx.tm) vy.tm
noncomputable def lE (p q : Tm) : Tm := eqT .bool p q
noncomputable def steps1 (p q : Tm) : List Stp := [.assume (lE p q), .assume p, .assume q, .two .eqmp 2 3, .refl tSign, .two .comb 6 2, .refl p, .two .comb 7 8, .two .eqmp 9 8, .two .eqmp 10 4, .two .antisym 11 5, .assume vx.tm, .assume vy.tm, .two .antisym 13 14, .assume tOdd, .inst [(vx, p), (vy, q)] 15]
noncomputable def due1a (p q : Tm) : List Th := headD ++ [⟨[lE p q], lE p q⟩, ⟨[p], p⟩, ⟨[q], q⟩, ⟨[lE p q, p], q⟩, ⟨[], eqT bbb tSign tSign⟩, ⟨[lE p q], eqT bb (.app tSign p) (.app tSign q)⟩, ⟨[], lE p p⟩, ⟨[lE p q], lE (lE p p) (lE q p)⟩, ⟨[lE p q], lE q p⟩, ⟨[lE p q, q], p⟩, ⟨[lE p q], lE p q⟩, ⟨[vx.tm], vx.tm⟩, ⟨[vy.tm], vy.tm⟩, ⟨[vx.tm, vy.tm], lE vx.tm vy.tm⟩, ⟨[tOdd], tOdd⟩]
noncomputable def hyps1 (p q : Tm) (same : Bool) : List Tm := if same then [p] else [p, q]
noncomputable def due1 (p q : Tm) (same : Bool) : List Th := due1a p q ++ [⟨hyps1 p q same, lE p q⟩]
theorem step_inst {made : List Th} {cs : Cs2} {ps : List Pr} {i : Int} {l t : Th} (hl : getTh made i = some l) (h : instTh cs ps l = some t) : runStep (made, cs) (.inst ps i) = some (made ++ [t], cs) := by
 simp [runStep, stepL, hl, h, keepC]
theorem step_abs {made : List Th} {cs : Cs2} {v : Vr} {i : Int} {l t : Th} (hl : getTh made i = some l) (h : underTh v l = some t) : runStep (made, cs) (.abs v i) = some (made ++ [t], cs) := by
 simp [runStep, stepL, hl, h, keepC]
theorem step_abs_none {made : List Th} {cs : Cs2} {v : Vr} {i : Int} {l : Th} (hl : getTh made i = some l) (h : underTh v l = none) : runStep (made, cs) (.abs v i) = none := by
 simp [runStep, stepL, hl, h, keepC]
theorem Runs.go {made : List Th} {cs : Cs2} {x : Stp} {t : Th} {r : List Stp} {o : Option (List Th × Cs2)} (h : runStep (made, cs) x = some (made ++ [t], cs)) (hs : MoStp x) (ht : MoTh t) (hm : ∀ th ∈ made, MoTh th)
  (k : (∀ th ∈ made ++ [t], MoTh th) → Runs (made ++ [t], cs) r o) : Runs (made, cs) (x :: r) o :=
 .cons h hs (mo_snoc hm ht) (k (mo_snoc hm ht))
theorem moTh1 {h c : Tm} (hh : Mo h) (hc : Mo c) : MoTh ⟨[h], c⟩ := ⟨fun q hq => by simp at hq; subst hq; exact hh, hc, by simp⟩
theorem moTh0 {c : Tm} (hc : Mo c) : MoTh ⟨[], c⟩ := ⟨fun q hq => (by cases hq), hc, by simp⟩
theorem moTh2 {h k c : Tm} (hh : Mo h) (hk : Mo k) (hc : Mo c) : MoTh ⟨[h, k], c⟩ := ⟨fun q hq => by simp at hq; rcases hq with rfl | rfl <;> assumption, hc, by simp⟩
section
variable {p q : Tm} (P : Pq p) (Q : Pq q)
include P
theorem Pq.mo : Mo p := ⟨by have := P.dp; exact Bd.wk this rfl, by have := P.sz; exact Bd.wk this rfl, by have := P.vs; exact Bd.wk this rfl, by have := P.pk; exact Bd.wk this rfl⟩
theorem Pq.ch : checked headC p = some .bool := by unfold checked; rw [P.ck, if_pos rfl, P.ty]
theorem Pq.nosides : sides p = none := by obtain ⟨x, k, t, L, rfl⟩ := P.sh; rfl
theorem Pq.unlike (a b : Tm) (s : Ty) : alike (eqT s a b) p = false := by
 obtain ⟨x, k, t, L, rfl⟩ := P.sh
 simp [alike, Z41, Z42, Z43, Z44, norm_eqT, norm_loose, Z9, Z10, Z11, Z12, Z13]
theorem Pq.unlike' (a b : Tm) (s : Ty) : alike p (eqT s a b) = false := by rw [alike_comm]; exact P.unlike a b s
include Q
theorem Pq.tyE : typeOf (lE p q) = some .bool := type_eqT _ _ _ P.ty Q.ty
theorem Pq.chE : Holk.checked headC (lE p q) = some .bool := by
 unfold Holk.checked; rw [show ckCons headC (lE p q) = true by simp [lE, eqT, Z55, Z56, Z57, Z58, Cn.same_self, P.ck, Q.ck], if_pos rfl, P.tyE Q]
theorem Pq.moE : Mo (lE p q) := by
 have := P.dp; have := P.sz; have := P.vs; have := P.pk; have := Q.dp; have := Q.sz; have := Q.vs; have := Q.pk
 exact mo_eqT (by simp [Z150, Z151, Z152, Z153]) ⟨by with_reducible exact Bd.wk ‹_› rfl, by with_reducible exact Bd.wk ‹_› rfl, by with_reducible exact Bd.wk ‹_› rfl, by with_reducible exact Bd.wk ‹_› rfl⟩ ⟨by with_reducible exact Bd.wk ‹_› rfl, by with_reducible exact Bd.wk ‹_› rfl, by with_reducible exact Bd.wk ‹_› rfl, by exact Bd.wk this rfl⟩
theorem Pq.moS : Mo (eqT bb (.app tSign p) (.app tSign q)) := by
 have := P.dp; have := P.sz; have := P.vs; have := P.pk; have := Q.dp; have := Q.sz; have := Q.vs; have := Q.pk
 refine mo_eqT (by simp [Z150, Z151, Z152, Z153]) ?_ ?_ <;> refine ⟨?_, ?_, ?_, ?_⟩ <;> simp only [Z114, Z115, Z116, Z117, Z130, Z131, Z132, Z133, Z126, Z127, Z128, Z129, Z122, Z123, Z124, Z125, Z150, Z151, Z152, Z153] <;> (first | (with_reducible apply Bd.mx <;> (first | with_reducible exact Bd.wk ‹_› rfl | exact Bd.wk this rfl | exact Bd.zz | (with_reducible apply Bd.mx <;> (first | with_reducible exact Bd.wk ‹_› rfl | (with_reducible apply Bd.sc; (apply Bd.mx <;> (first | exact Bd.zz | (with_reducible apply Bd.sc; (apply Bd.mx <;> exact Bd.zz))))))))) | (with_reducible apply Bd.sc; (first | with_reducible exact Bd.wk ‹_› rfl | exact Bd.wk this rfl | exact Bd.zz | (with_reducible apply Bd.mx <;> (first | with_reducible exact Bd.wk ‹_› rfl | (with_reducible apply Bd.sc; (apply Bd.mx <;> (first | exact Bd.zz | (with_reducible apply Bd.sc; (apply Bd.mx <;> exact Bd.zz))))))))) | lia)
theorem Pq.moEE : Mo (lE (lE p p) (lE q p)) := by
 have := P.dp; have := P.sz; have := P.vs; have := P.pk; have := Q.dp; have := Q.sz; have := Q.vs; have := Q.pk
 refine mo_eqT (by simp [Z150, Z151, Z152, Z153]) ?_ ?_ <;> refine ⟨?_, ?_, ?_, ?_⟩ <;> simp only [lE, eqT, Z114, Z115, Z116, Z117, Z130, Z131, Z132, Z133, Z126, Z127, Z128, Z129, Z122, Z123, Z124, Z125, Z150, Z151, Z152, Z153] <;> (first | (with_reducible apply Bd.mx <;> (first | with_reducible exact Bd.wk ‹_› rfl | (with_reducible apply Bd.mx <;> (first | with_reducible exact Bd.wk ‹_› rfl | exact Bd.wk this rfl | exact Bd.zz | (with_reducible apply Bd.sc; (apply Bd.mx <;> (first | with_reducible exact Bd.wk ‹_› rfl | (with_reducible apply Bd.sc; (apply Bd.mx <;> (first | exact Bd.zz | (with_reducible apply Bd.sc; (apply Bd.mx <;> exact Bd.zz)))))))))))) | (with_reducible apply Bd.sc; (first | with_reducible exact Bd.wk ‹_› rfl | (with_reducible apply Bd.mx <;> (first | with_reducible exact Bd.wk ‹_› rfl | exact Bd.wk this rfl | exact Bd.zz | (with_reducible apply Bd.sc; (apply Bd.mx <;> (first | with_reducible exact Bd.wk ‹_› rfl | (with_reducible apply Bd.sc; (apply Bd.mx <;> (first | exact Bd.zz | (with_reducible apply Bd.sc; (apply Bd.mx <;> exact Bd.zz)))))))))))) | lia)
end
theorem moX : Mo vx.tm := moB_iff (by decide)
theorem moY : Mo vy.tm := moB_iff (by decide)
theorem moXY : Mo (lE vx.tm vy.tm) := moB_iff (by decide)
theorem moOdd : Mo tOdd := moB_iff (by decide)
theorem moSign : Mo tSign := moB_iff (by decide)
theorem moSigns : Mo (eqT bbb tSign tSign) := moB_iff (by decide)
theorem Runs.at {D : List Th} {cs : Cs2} {x : Stp} {t : Th} {r : List Stp} {o : Option (List Th × Cs2)} (k : Nat) (hk : D[k]? = some t) (h : runStep (D.take k, cs) x = some (D.take k ++ [t], cs)) (hs : MoStp x) (hD : ∀ th ∈ D, MoTh th)
  (next : Runs (D.take (k + 1), cs) r o) : Runs (D.take k, cs) (x :: r) o := by
 have e : D.take k ++ [t] = D.take (k + 1) := by rw [List.take_add_one, hk]; rfl
 rw [e] at h
 exact .cons h hs (fun th hth => hD th (List.mem_of_mem_take hth)) next
theorem getTh_take {D : List Th} {i k : Nat} {t : Th} (hi : i < k) (h : D[i]? = some t) : getTh (D.take k) (i : Int) = some t := getTh_nat (by rw [List.getElem?_take, if_pos hi, h])
theorem mo_due1 {p q : Tm} (P : Pq p) (Q : Pq q) (s : Bool) : ∀ th ∈ due1 p q s, MoTh th := by
 intro th hth
 have moE := P.moE Q
 simp only [due1, due1a, List.mem_append, List.mem_cons, List.not_mem_nil, or_false] at hth
 rcases hth with (h | rfl | rfl | rfl | rfl | rfl | rfl | rfl | rfl | rfl | rfl | rfl | rfl | rfl | rfl | rfl) | rfl
 ·exact mo_headD th h
 ·exact moTh1 moE moE
 ·exact moTh1 P.mo P.mo
 ·exact moTh1 Q.mo Q.mo
 ·exact moTh2 moE P.mo Q.mo
 ·exact moTh0 moSigns
 ·exact moTh1 moE (P.moS Q)
 ·exact moTh0 (P.moE P)
 ·exact moTh1 moE (P.moEE Q)
 ·exact moTh1 moE (Q.moE P)
 ·exact moTh2 moE Q.mo P.mo
 ·exact moTh1 moE moE
 ·exact moTh1 moX moX
 ·exact moTh1 moY moY
 ·exact moTh2 moX moY moXY
 ·exact moTh1 moOdd moOdd
 ·unfold hyps1; split
  ·exact moTh1 P.mo moE
  ·exact moTh2 P.mo Q.mo moE
theorem runs1 {p q : Tm} (P : Pq p) (Q : Pq q) {r : List Stp} {o : Option (List Th × Cs2)}
  (h : Runs (due1 p q (alike p q), headC) r o) : Runs (headD, headC) (steps1 p q ++ r) o := by
 have moE := P.moE Q
 have ueq (a b : Tm) : alike q (lE a b) = false := Q.unlike' a b _
 have uep (a b : Tm) : alike p (lE a b) = false := P.unlike' a b _
 have hD := mo_due1 P Q (alike p q)
 have e0 : headD = (due1 p q (alike p q)).take 2 := rfl
 have e1 : due1 p q (alike p q) = (due1 p q (alike p q)).take 18 := rfl
 rw [e1] at h
 rw [e0]
 refine .at 2 rfl (step_assume (P.chE Q)) moE hD ?_
 refine .at 3 rfl (step_assume P.ch) P.mo hD ?_
 refine .at 4 rfl (step_assume Q.ch) Q.mo hD ?_
 refine .at 5 rfl (step_two (l := ⟨[lE p q], lE p q⟩) (r := ⟨[p], p⟩) (getTh_take (i := 2) (by decide) rfl) (getTh_take (i := 3) (by decide) rfl) ?_) trivial hD ?_
 ·simp [twoTh, lE, sides_eqT, alike_self, joinL, among, P.unlike']
 refine .at 6 rfl (step_refl (s := bbb) (by rfl) (by rfl)) moSign hD ?_
 refine .at 7 rfl (step_two (l := ⟨[], eqT bbb tSign tSign⟩) (r := ⟨[lE p q], lE p q⟩) (getTh_take (i := 6) (by decide) rfl) (getTh_take (i := 2) (by decide) rfl) ?_) trivial hD ?_
 ·simp only [twoTh, lE, sides_eqT, Option.bind_some, Z73, Z74, Z75, Z76, P.ty]
  simp [eqTy, Ty.eq_self, Cn.same_self, joinL, among, Z1, Z2, Z3, Z4]
 refine .at 8 rfl (step_refl P.ch P.ty) P.mo hD ?_
 refine .at 9 rfl (step_two (l := ⟨[lE p q], eqT bb (.app tSign p) (.app tSign q)⟩) (r := ⟨[], lE p p⟩) (getTh_take (i := 7) (by decide) rfl) (getTh_take (i := 8) (by decide) rfl) ?_) trivial hD ?_
 ·simp only [twoTh, lE, sides_eqT, Option.bind_some, Z73, Z74, Z75, Z76, P.ty]
  simp [eqTy, Ty.eq_self, Cn.same_self, joinL, among, Z1, Z2, Z3, Z4, eqT]
 refine .at 10 rfl (step_two (l := ⟨[lE p q], lE (lE p p) (lE q p)⟩) (r := ⟨[], lE p p⟩) (getTh_take (i := 9) (by decide) rfl) (getTh_take (i := 8) (by decide) rfl) ?_) trivial hD ?_
 ·simp [twoTh, lE, sides_eqT, alike_self, joinL, among]
 refine .at 11 rfl (step_two (l := ⟨[lE p q], lE q p⟩) (r := ⟨[q], q⟩) (getTh_take (i := 10) (by decide) rfl) (getTh_take (i := 4) (by decide) rfl) ?_) trivial hD ?_
 ·simp [twoTh, lE, sides_eqT, alike_self, joinL, among, Q.unlike']
 refine .at 12 rfl (step_two (l := ⟨[lE p q, q], p⟩) (r := ⟨[lE p q, p], q⟩) (getTh_take (i := 11) (by decide) rfl) (getTh_take (i := 5) (by decide) rfl) ?_) trivial hD ?_
 ·simp [twoTh, P.ty, withoutL, alike_self, joinL, among, uep, ueq]; rfl
 refine .at 13 rfl (step_assume (by rfl)) moX hD ?_
 refine .at 14 rfl (step_assume (by rfl)) moY hD ?_
 refine .at 15 rfl (step_two (l := ⟨[vx.tm], vx.tm⟩) (r := ⟨[vy.tm], vy.tm⟩) (getTh_take (i := 13) (by decide) rfl) (getTh_take (i := 14) (by decide) rfl) (by rfl)) trivial hD ?_
 refine .at 16 rfl (step_assume (by rfl)) moOdd hD ?_
 refine .at 17 rfl (step_inst (l := ⟨[vx.tm, vy.tm], lE vx.tm vy.tm⟩) (getTh_take (i := 15) (by decide) rfl) ?_) ⟨fun pr hpr => ?_, by simp⟩ hD h
 ·have hf : [(vx, p), (vy, q)].all fitsP = true := by simp [fitsP, P.ty, Q.ty, Z1, Z2, Z3, Z4]
  have hx : put vx.tm [(vx, p), (vy, q)] = p := rfl
  have hy : put vy.tm [(vx, p), (vy, q)] = q := rfl
  have he : put (lE vx.tm vy.tm) [(vx, p), (vy, q)] = lE p q := rfl
  simp only [instTh, List.all_cons, List.all_nil, P.ch, Q.ch, Option.isSome_some, Bool.and_self, if_true, Z67, Z68, putIn, hf, hx, hy, he, Option.bind_some, Option.map_some]
  simp only [joinL, among, List.foldl_cons, List.foldl_nil, List.any_nil, List.any_cons, Bool.or_false, Bool.false_eq_true, if_false, List.nil_append, hyps1]
  rw [alike_comm q p]
  cases alike p q <;> rfl
 ·simp at hpr
  rcases hpr with rfl | rfl
  ·exact ⟨P.mo, by simp [Z150, Z151, Z152, Z153]⟩
  ·exact ⟨Q.mo, by simp [Z150, Z151, Z152, Z153]⟩
theorem mapO_nil : ∀ hs : List Tm, mapO (putIn []) hs = some hs
 | [] => rfl
 | h :: hs => by simp [Z67, Z68, putIn, put_nil, mapO_nil hs]
theorem inst_nil (cs : Cs2) (th : Th) (h : joinL [] th.hs = th.hs) : instTh cs [] th = some th := by
 simp only [instTh, List.all_nil, if_true, mapO_nil, putIn, put_nil, Option.bind_some, Option.map_some, h]
theorem join_one (a : Tm) : joinL [] [a] = [a] := rfl
theorem join_two (a b : Tm) (h : alike b a = false) : joinL [] [a, b] = [a, b] := by simp [joinL, among, h]
theorem join_due1 {p q : Tm} (P : Pq p) (Q : Pq q) : ∀ th ∈ due1 p q (alike p q), joinL [] th.hs = th.hs := by
 intro th hth
 have ueq (a b : Tm) : alike q (lE a b) = false := Q.unlike' a b _
 have uep (a b : Tm) : alike p (lE a b) = false := P.unlike' a b _
 simp only [due1, due1a, headD, List.mem_append, List.mem_cons, List.not_mem_nil, or_false] at hth
 rcases hth with ((rfl | rfl) | rfl | rfl | rfl | rfl | rfl | rfl | rfl | rfl | rfl | rfl | rfl | rfl | rfl | rfl | rfl) | rfl
 all_goals first
  | rfl
  | exact join_two _ _ (uep _ _)
  | exact join_two _ _ (ueq _ _)
  | (unfold hyps1; cases h : alike p q <;> first | exact join_two _ _ (by rw [alike_comm]; exact h) | rfl)
noncomputable def third1 (p q : Tm) (h : Vr) (b : Bool) : Option Th := if b then none else some ⟨[lE p q], eqT (.fn h.t .bool) (.lam h.x h.k h.t p) (.lam h.x h.k h.t q)⟩
noncomputable def trL (p q : Tm) (same : Bool) (h : Vr) (b : Bool) (num : Int) (four : Option Th) : List (Stp × Option Th) :=
 [(.two .eqmp 2 4, if same then some ⟨[lE p q, q], q⟩ else none), (.two .trans 2 2, if same then some ⟨[lE p q], lE p q⟩ else none), (.abs h 2, third1 p q h b), (.inst [] num, four), (.two .trans 2 10, some ⟨[lE p q], lE p p⟩), (.two .eqmp 16 13, none), (.two .eqmp 3 4, none), (.two .trans 2 14, none), (.two .comb 2 2, none), (.two .comb 7 6, none), (.bad 2, none)]
noncomputable def oRun (D : List Th) (w : Option Th) : Option (List Th × Cs2) := w.map fun t => (D ++ [t], headC)
theorem getTh_due {D : List Th} {i : Nat} {t : Th} (h : D[i]? = some t) : getTh D (i : Int) = some t := getTh_nat h
theorem getTh_eq (D : List Th) (n : Nat) (hn : D.length = n) (i : Int) : getTh D i = if 0 ≤ i ∧ i < n then D[i.toNat]? else none := by
 unfold getTh
 by_cases h : 0 ≤ i ∧ i < n
 ·rw [if_pos h, if_neg (by lia)]
 ·rw [if_neg h, if_pos (by lia)]
theorem run_one {D : List Th} (hD : ∀ th ∈ D, MoTh th) {x : Stp} {w : Option Th} (hx : MoStp x) (hw : ∀ t, w = some t → MoTh t) (h : runStep (D, headC) x = oRun D w) : Runs (D, headC) [x] (oRun D w) := by
 cases w with
 | none => exact .stop h hx
 | some t => exact .cons h hx (mo_snoc hD (hw t rfl)) (.nil _)
theorem trial1 {p q : Tm} (P : Pq p) (Q : Pq q) (h : Vr) (hh : h.t.dp ≤ 5) (hk : h.k ≤ 5) (b : Bool) (hb : memv h (freeV (lE p q)) = b) (num : Int) (four : Option Th) (hf : four = if 0 ≤ num ∧ num < 18 then (due1 p q (alike p q))[num.toNat]? else none)
  {k : Nat} {tr : Stp × Option Th} (ht : (trL p q (alike p q) h b num four)[k]? = some tr) :
  Runs (due1 p q (alike p q), headC) [tr.1] (oRun (due1 p q (alike p q)) tr.2) ∧ (∀ t, tr.2 = some t → MoTh t) := by
 have hD := mo_due1 P Q (alike p q)
 have moE := P.moE Q
 have ueq (a b : Tm) : alike q (lE a b) = false := Q.unlike' a b _
 have uep (a b : Tm) : alike p (lE a b) = false := P.unlike' a b _
 have cm := alike_comm q p
 have key : MoStp tr.1 ∧ (∀ t, tr.2 = some t → MoTh t) ∧ runStep (due1 p q (alike p q), headC) tr.1 = oRun (due1 p q (alike p q)) tr.2 := by
  match k with
  | 0 =>
   cases ht
   refine ⟨trivial, fun t e => ?_, ?_⟩
   ·cases hs : alike p q <;> rw [hs] at e <;> simp at e
    subst e; exact moTh2 moE Q.mo Q.mo
   ·cases hs : alike p q with
    | false => exact step_two_none (l := ⟨[lE p q], lE p q⟩) (r := ⟨[q], q⟩) (getTh_due (i := 2) rfl) (getTh_due (i := 4) rfl) (by simp [twoTh, lE, sides_eqT, hs])
    | true => exact step_two (l := ⟨[lE p q], lE p q⟩) (r := ⟨[q], q⟩) (getTh_due (i := 2) rfl) (getTh_due (i := 4) rfl) (by simp [twoTh, lE, sides_eqT, hs, joinL, among, Q.unlike'])
  | 1 =>
   cases ht
   refine ⟨trivial, fun t e => ?_, ?_⟩
   ·cases hs : alike p q <;> rw [hs] at e <;> simp at e
    subst e; exact moTh1 moE moE
   ·cases hs : alike p q with
    | false => exact step_two_none (l := ⟨[lE p q], lE p q⟩) (r := ⟨[lE p q], lE p q⟩) (getTh_due (i := 2) rfl) (getTh_due (i := 2) rfl) (by simp [twoTh, lE, sides_eqT, cm, hs])
    | true => exact step_two (l := ⟨[lE p q], lE p q⟩) (r := ⟨[lE p q], lE p q⟩) (getTh_due (i := 2) rfl) (getTh_due (i := 2) rfl) (by simp [twoTh, lE, sides_eqT, cm, hs, joinL, among, alike_self, P.ty])
  | 2 =>
   cases ht
   have tl : typeOf (.lam h.x h.k h.t p) = some (.fn h.t .bool) := by simp [Z73, Z74, Z75, Z76, P.ty]
   refine ⟨by show h.t.dp ≤ 60; exact Bd.wk hh rfl, fun t e => ?_, ?_⟩
   ·simp only [third1] at e
    split at e
    ·cases e
    ·cases e
     have := P.dp; have := P.sz; have := P.vs; have := P.pk; have := Q.dp; have := Q.sz; have := Q.vs; have := Q.pk
     refine moTh1 moE (mo_eqT (by simp [Z150, Z151, Z152, Z153]; exact Bd.wk hh rfl) ?_ ?_) <;> refine ⟨?_, ?_, ?_, ?_⟩ <;> simp only [Z114, Z115, Z116, Z117, Z130, Z131, Z132, Z133, Z126, Z127, Z128, Z129, Z122, Z123, Z124, Z125] <;> (first | with_reducible exact Bd.wk ‹_› rfl | with_reducible exact Bd.wkc ‹_› rfl | (with_reducible apply Bd.mx <;> (first | exact Bd.wk hk rfl | with_reducible exact Bd.wk ‹_› rfl | exact Bd.wk this rfl | (with_reducible apply Bd.mx <;> (first | exact Bd.wk hh rfl | with_reducible exact Bd.wk ‹_› rfl)))) | (with_reducible apply Bd.sc; (first | exact Bd.wk hk rfl | with_reducible exact Bd.wk ‹_› rfl | exact Bd.wk this rfl | (with_reducible apply Bd.mx <;> (first | exact Bd.wk hh rfl | with_reducible exact Bd.wk ‹_› rfl)))))
   ·cases b with
    | true => exact step_abs_none (l := ⟨[lE p q], lE p q⟩) (getTh_due (i := 2) rfl) (by simp only [underTh]; rw [show sides (lE p q) = some (p, q) from sides_eqT ..]; simp [hb])
    | false => exact step_abs (l := ⟨[lE p q], lE p q⟩) (getTh_due (i := 2) rfl) (by simp only [underTh]; rw [show sides (lE p q) = some (p, q) from sides_eqT ..]; simp [hb, tl])
  | 3 =>
   cases ht
   have hl : (due1 p q (alike p q)).length = 18 := rfl
   have hg := getTh_eq (due1 p q (alike p q)) 18 hl num
   rw [show ((18 : Nat) : Int) = 18 from rfl] at hg
   rw [← hf] at hg
   refine ⟨⟨fun pr hpr => (by cases hpr), by simp⟩, fun t e => ?_, ?_⟩
   ·simp only at e
    subst e
    split at hf
    ·exact hD t (List.mem_of_getElem? hf.symm)
    ·cases hf
   ·cases hfo : four with
    | none => rw [hfo] at hg; simp [runStep, stepL, hg, keepC, oRun]
    | some t =>
     rw [hfo] at hg hf
     refine step_inst hg (inst_nil _ _ (join_due1 P Q t ?_))
     split at hf
     ·exact List.mem_of_getElem? hf.symm
     ·cases hf
  | 4 =>
   cases ht
   refine ⟨trivial, fun t e => ?_, ?_⟩
   ·cases e; exact moTh1 moE (P.moE P)
   ·exact step_two (l := ⟨[lE p q], lE p q⟩) (r := ⟨[lE p q], lE q p⟩) (getTh_due (i := 2) rfl) (getTh_due (i := 10) rfl) (by simp [twoTh, lE, sides_eqT, joinL, among, alike_self, P.ty])
  | 5 =>
   cases ht
   exact ⟨trivial, fun t e => (by cases e), step_two_none (l := ⟨[tOdd], tOdd⟩) (r := ⟨[vx.tm], vx.tm⟩) (getTh_due (i := 16) rfl) (getTh_due (i := 13) rfl) rfl⟩
  | 6 =>
   cases ht
   exact ⟨trivial, fun t e => (by cases e), step_two_none (l := ⟨[p], p⟩) (r := ⟨[q], q⟩) (getTh_due (i := 3) rfl) (getTh_due (i := 4) rfl) (by simp [twoTh, P.nosides])⟩
  | 7 =>
   cases ht
   exact ⟨trivial, fun t e => (by cases e), step_two_none (l := ⟨[lE p q], lE p q⟩) (r := ⟨[vy.tm], vy.tm⟩) (getTh_due (i := 2) rfl) (getTh_due (i := 14) rfl) (by simp [twoTh, lE, sides_eqT, sides, Vr.tm])⟩
  | 8 =>
   cases ht
   exact ⟨trivial, fun t e => (by cases e), step_two_none (l := ⟨[lE p q], lE p q⟩) (r := ⟨[lE p q], lE p q⟩) (getTh_due (i := 2) rfl) (getTh_due (i := 2) rfl) (by simp [twoTh, lE, sides_eqT, Z73, Z74, Z75, Z76, P.ty])⟩
  | 9 =>
   cases ht
   exact ⟨trivial, fun t e => (by cases e), step_two_none (l := ⟨[lE p q], eqT bb (.app tSign p) (.app tSign q)⟩) (r := ⟨[], eqT bbb tSign tSign⟩) (getTh_due (i := 7) rfl) (getTh_due (i := 6) rfl) (by simp [twoTh, sides_eqT, Z73, Z74, Z75, Z76, P.ty, eqTy, Z1, Z2, Z3, Z4, Cn.same_self])⟩
  | 10 => cases ht; exact ⟨trivial, fun t e => (by cases e), rfl⟩
  | j + 11 => simp [trL] at ht
 exact ⟨run_one hD key.1 key.2.1 key.2.2, key.2.1⟩
inductive Told where | outer | inner | leaf (c : Tm)
noncomputable def eTold : Told → PyData
 | .outer => .str (st 28)
 | .inner => .str (st 29)
 | .leaf c => eTm c
noncomputable def Told.eq : Told → Told → Bool
 | .outer, t => match t with
  | .outer => true
  | _ => false
 | .inner, t => match t with
  | .inner => true
  | _ => false
 | .leaf a, t => match t with
  | .leaf b => a.eq b
  | _ => false
theorem Z14 : Told.eq (.outer) t = (match t with
  | .outer => true
  | _ => false) := rfl
theorem Z15 : Told.eq (.inner) t = (match t with
  | .inner => true
  | _ => false) := rfl
theorem Z16 : Told.eq (.leaf a) t = (match t with
  | .leaf b => a.eq b
  | _ => false) := rfl
noncomputable def toldOf (a b : Vr) (c : Tm) : Told := if c.eq b.tm then .inner else if c.eq a.tm then .outer else .leaf c
noncomputable def looseOf (a b : Vr) (c : Tm) : List Vr := match toldOf a b c with
 | .leaf _ => match c with
  | .var x k t => [⟨x, k, t⟩]
  | _ => []
 | _ => []
structure La where
 a : Vr
 b : Vr
 c : Tm
noncomputable def lfTy : Tm → Ty
 | .var _ _ t => t
 | .con _ t => t
 | .app _ _ => .bool
 | .lam _ _ _ _ => .bool
theorem Z165 : lfTy (.var u1 u2 t) = (t) := rfl
theorem Z166 : lfTy (.con u1 t) = (t) := rfl
theorem Z167 : lfTy (.app u1 u2) = (.bool) := rfl
theorem Z168 : lfTy (.lam u1 u2 u3 u4) = (.bool) := rfl
noncomputable def La.tm (l : La) : Tm := .lam l.a.x l.a.k l.a.t (.lam l.b.x l.b.k l.b.t l.c)
noncomputable def La.ty (l : La) : Ty := .fn l.a.t (.fn l.b.t (lfTy l.c))
noncomputable def La.told (l : La) : Told := toldOf l.a l.b l.c
noncomputable def La.lo (l : La) : List Vr := looseOf l.a l.b l.c
noncomputable def eLt (l : La) : PyData := .tuple [eTy l.a.t, eTy l.b.t, eTold l.told]
noncomputable def eLa (l : La) : PyData := .tuple [eTm l.tm, eLt l, eTy l.ty, .list (l.lo.map eVr)]
noncomputable def poolV : List Vr := [vx, vy, vz]
noncomputable def poolC : List Tm := [vx.tm, vy.tm, vz.tm, tK, tL]
noncomputable def lfL : Tm → Bool
 | .var _ _ _ => true
 | .con _ _ => true
 | _ => false
theorem eVr_tm (v : Vr) : eVr v = eTm v.tm := rfl
theorem cmp_tm_eq {a b : Tm} (h : a.dp ≤ 60) : cmpD .eq (eTm a) (eTm b) = some (.bool (a.eq b)) := by
 have := depth_tm a
 refine cmpD_is _ _ _ ?_
 rw [cmp_e, if_pos (.inr (by simp only [dlim]; exact Bd.t1 this h rfl)), eqv_tm]
theorem cmp_st_tm (i : Nat) (c : Tm) : cmpD .eq (.str (st i)) (eTm c) = some (.bool false) := by
 refine cmpD_is _ _ _ ?_
 rw [cmp_e, if_pos (.inr (by simp [PyData.depth]))]
 cases c <;> simp only [Z63, Z64, Z65, Z66, ev_st]
theorem call_law_lam (n : Nat) (σ : Store) (na nb nc : Int) (i j k : Nat) (l : La) (ha : Int.fmod na 3 = i) (hb : Int.fmod nb 3 = j) (hc : Int.fmod nc 5 = k) (li : i < 3) (lj : j < 3) (lk : k < 5) (ga : poolV[i]? = some l.a) (gb : poolV[j]? = some l.b) (gc : poolC[k]? = some l.c) :
  CF (n + 1) 33 [.d (.int na), .d (.int nb), .d (.int nc)] σ = .ok (.d (eLa l)) σ := by
 obtain ⟨a, b, c⟩ := l
 simp only at ga gb gc
 have hcl : lfL c = true ∧ c.dp ≤ 60 := by
  have h : poolC.all (fun c => lfL c && Nat.ble c.dp 60) = true := by decide
  have h2 := List.all_eq_true.mp h c (List.mem_of_getElem? gc)
  rw [Bool.and_eq_true] at h2
  exact ⟨h2.1, Nat.le_of_ble_eq_true h2.2⟩
 have h1 := idx_listE eVr poolV i ga (by exact Bd.ll li rfl)
 have h2 := idx_listE eVr poolV j gb (by exact Bd.ll lj rfl)
 have h3 := idx_listE eTm poolC k gc (by exact Bd.ll lk rfl)
 have e1 : poolV.map eVr = [eVr vx, eVr vy, eVr vz] := rfl
 have e3 : poolC.map eTm = [eVr vx, eVr vy, eVr vz, eTm tK, eTm tL] := rfl
 rw [e1] at h1 h2
 rw [e3] at h3
 have ca := cmp_tm_eq (b := a.tm) hcl.2
 have cb := cmp_tm_eq (b := b.tm) hcl.2
 rw [← eVr_tm] at ca cb
 have hsf : cmpD .eq (eTm c) (eTm c) = some (.bool true) := by rw [cmp_tm_eq hcl.2, Tm.eq_self]
 have hs8 := cmp_st_tm 28 c
 have hs9 := cmp_st_tm 29 c
 show close σ.length (exSs G (CF n) b33 [Iv na, Iv nb, Iv nc, none, none, none, none, none, none] σ) = _
 simp only [EV, b33, mod_int _ 3 (by decide), mod_int _ 5 (by decide), ha, hb, hc, G5, G6, G8, G9, G10, h1, h2, h3, ca, cb]
 cases qa : c.eq a.tm <;> cases qb : c.eq b.tm <;> simp only [EV, ca, cb, qa, qb, hsf, hs8, hs9] <;> cases c <;>
  first
  | (exfalso; revert hcl; simp [lfL]; done)
  | (simp only [EV, Z63, Z64, Z65, Z66, eVr, eLa, La.tm, eLt, La.told, La.ty, La.lo, toldOf, looseOf, qa, qb, if_true, Bool.false_eq_true, if_false, eTold, Z165, Z166, Z167, Z168, List.map_cons, List.map_nil, Z89, Z90, Z91, Z92])
noncomputable def Told.eq_iff : ∀ a b : Told, PyData.eqv (eTold a) (eTold b) = a.eq b
 | .outer, .outer => by simp [eTold, Z14, Z15, Z16, ev_str]
 | .inner, .inner => by simp [eTold, Z14, Z15, Z16, ev_str]
 | .outer, .inner => by simp [eTold, Z14, Z15, Z16, ev_str, st_eq]
 | .inner, .outer => by simp [eTold, Z14, Z15, Z16, ev_str, st_eq]
 | .outer, .leaf c => by cases c <;> simp only [eTold, Z14, Z15, Z16, Z63, Z64, Z65, Z66, ev_st]
 | .inner, .leaf c => by cases c <;> simp only [eTold, Z14, Z15, Z16, Z63, Z64, Z65, Z66, ev_st]
 | .leaf c, .outer => by cases c <;> simp only [eTold, Z14, Z15, Z16, Z63, Z64, Z65, Z66, ev_ts]
 | .leaf c, .inner => by cases c <;> simp only [eTold, Z14, Z15, Z16, Z63, Z64, Z65, Z66, ev_ts]
 | .leaf a, .leaf b => by simp only [eTold, Z14, Z15, Z16, eqv_tm]
noncomputable def near (l m : La) : Bool := l.a.t.eq m.a.t && (l.b.t.eq m.b.t && l.told.eq m.told)
theorem eqv_lt (l m : La) : PyData.eqv (eLt l) (eLt m) = near l m := by
 simp [eLt, near, ev_tup, ea_cons, ea_nil, eqv_ty, Told.eq_iff]
noncomputable def pf (f : Bs) (l : La) : Tm := .app (.var f 0 (.fn l.ty .bool)) l.tm
noncomputable def pfv (f : Bs) (l : La) : Vr := ⟨f, 0, .fn l.ty .bool⟩
noncomputable def vrsEq : List Vr → List Vr → Bool := lsEq Vr.eq
theorem vrsEq_iff {a b : List Vr} (h : vrsEq a b = true) : a = b := lsEq_iff Vr.eq_iff.mp h
noncomputable def fgL : List Bs := [.f, .g]
noncomputable def laL : List La := poolV.flatMap fun a => poolV.flatMap fun b => poolC.map fun c => ⟨a, b, c⟩
noncomputable def laOk (l : La) : Bool := tyOpt (typeOf l.tm) (some l.ty) && ckCons headC l.tm && Nat.ble l.tm.dp 5 && Nat.ble l.ty.dp 5 && Nat.ble l.tm.sz 5 && Nat.ble l.tm.vs 5 && Nat.ble l.tm.pk 5 && Nat.ble l.lo.length 5 &&
 fgL.all fun f => vrsEq (freeV (pf f l)) (pfv f l :: l.lo)
theorem la_all : laL.all laOk = true := by decide +kernel
noncomputable def nearOk (l : La) : Bool := laL.all fun m => alike l.tm m.tm == near l m
theorem near_1 : (laL.take 15).all nearOk = true := by decide +kernel
theorem near_2 : ((laL.drop 15).take 15).all nearOk = true := by decide +kernel
theorem near_3 : (laL.drop 30).all nearOk = true := by decide +kernel
theorem la_mem {l : La} (ha : l.a ∈ poolV) (hb : l.b ∈ poolV) (hc : l.c ∈ poolC) : l ∈ laL := by
 simp only [laL, List.mem_flatMap, List.mem_map]
 exact ⟨l.a, ha, l.b, hb, l.c, hc, rfl⟩
theorem near_is {l m : La} (hl : l ∈ laL) (hm : m ∈ laL) : alike l.tm m.tm = near l m := by
 have e : laL = laL.take 15 ++ ((laL.drop 15).take 15 ++ laL.drop 30) := rfl
 have h : nearOk l = true := by
  rw [e] at hl
  rcases List.mem_append.mp hl with h | h
  ·exact List.all_eq_true.mp near_1 l h
  ·rcases List.mem_append.mp h with h | h
   ·exact List.all_eq_true.mp near_2 l h
   ·exact List.all_eq_true.mp near_3 l h
 exact beq_iff_eq.mp (List.all_eq_true.mp h m hm)
theorem alike_pf {f g : Bs} {l m : La} (hl : l ∈ laL) (hm : m ∈ laL) : alike (pf f l) (pf g m) = (near l m && (pfv f l).eq (pfv g m)) := by
 rw [← near_is hl hm]
 simp only [alike, pf, Z41, Z42, Z43, Z44, norm_loose, Z9, Z10, Z11, Z12, Z13, pfv, Vr.eq]
 exact Bool.and_comm _ _
structure LaF (f : Bs) (l : La) : Prop where
 pq : Pq (pf f l)
 fr : freeV (pf f l) = pfv f l :: l.lo
 td : l.ty.dp ≤ 5
 lt : l.tm.dp ≤ 5
 ll : l.lo.length ≤ 5
theorem laF {f : Bs} {l : La} (hf : f ∈ fgL) (hl : l ∈ laL) : LaF f l := by
 have h := List.all_eq_true.mp la_all l hl
 unfold laOk at h
 simp only [Bool.and_eq_true, Nat.ble_eq] at h
 obtain ⟨⟨⟨⟨⟨⟨⟨⟨h1, h2⟩, h3⟩, h4⟩, h5⟩, h6⟩, h7⟩, h8⟩, h9⟩ := h
 have t1 := tyOpt_iff h1
 refine ⟨⟨?_, ?_, ⟨_, _, _, _, rfl⟩, ?_, ?_, ?_, ?_⟩, vrsEq_iff (List.all_eq_true.mp h9 f hf), h4, h3, h8⟩
 ·simp [pf, Z73, Z74, Z75, Z76, t1, Ty.eq_self]
 ·simp [pf, Z55, Z56, Z57, Z58, h2]
 ·simp only [pf, Z114, Z115, Z116, Z117, Z150, Z151, Z152, Z153]; (apply Bd.sc; (apply Bd.mx <;> (first | exact Bd.wk h3 rfl | (with_reducible apply Bd.sc; (apply Bd.mx <;> (first | exact Bd.wk h4 rfl | exact Bd.zz))))))
 ·simp only [pf, Z130, Z131, Z132, Z133]; lia
 ·simp only [pf, Z126, Z127, Z128, Z129]; lia
 ·simp only [pf, Z122, Z123, Z124, Z125]; (apply Bd.mx <;> (first | exact h7 | exact Bd.zz))
theorem mem_into : ∀ (t : Tm) (v : Vr) (bd o : List Vr), memv v (freeInto t bd o) = (memv v o || memv v (freeInto t bd [])) := by
 intro t
 induction t with
 | var x k t =>
  intro v bd o
  have hc (a : List Vr) (w : Vr) : memv v (a ++ [w]) = (memv v a || w.eq v) := by simp [memv]
  by_cases hv : memv v o = true
  ·simp only [Z25, Z26, Z27, Z28]; split <;> simp [hc, hv]
  ·have hv : memv v o = false := by simpa using hv
   simp only [Z25, Z26, Z27, Z28, memv_nil, Bool.or_false, List.nil_append]
   cases h1 : memv ⟨x, k, t⟩ bd with
   | true => simp [hv, memv_nil]
   | false =>
    cases h2 : memv ⟨x, k, t⟩ o with
    | true =>
     have : (⟨x, k, t⟩ : Vr).eq v = false := by
      cases h3 : (⟨x, k, t⟩ : Vr).eq v with
      | false => rfl
      | true => rw [Vr.eq_iff.mp h3, hv] at h2; cases h2
     simp [hv, memv_one, this]
    | false => simp [hc, hv, memv_one]
 | con x t => intro v bd o; simp [Z25, Z26, Z27, Z28, memv_nil]
 | app f a ihf iha =>
  intro v bd o
  simp only [Z25, Z26, Z27, Z28]
  rw [iha v bd (freeInto f bd o), ihf v bd o, iha v bd (freeInto f bd []), Bool.or_assoc]
 | lam x k t b ih => intro v bd o; simp only [Z25, Z26, Z27, Z28]; exact ih v _ o
theorem free_lE (v : Vr) (p q : Tm) : memv v (freeV (lE p q)) = (memv v (freeV p) || memv v (freeV q)) := by
 show memv v (freeInto q [] (freeInto p [] [])) = _
 rw [mem_into]; rfl
theorem free_two {f g : Bs} {l m : La} (hl : LaF f l) (hm : LaF g m) (v : Vr) : memv v (freeV (lE (pf f l) (pf g m))) = memv v ([pfv f l, pfv g m] ++ l.lo ++ m.lo) := by
 rw [free_lE, hl.fr, hm.fr]
 simp only [memv, List.cons_append, List.nil_append, List.any_cons, List.any_append]
 cases (pfv f l).eq v <;> cases (pfv g m).eq v <;> simp
noncomputable def b34a : List S := [.assign (.tup [(.var 11), (.var 12)]) (.tup [(.call 33 [(.var 0), (.var 1), (.var 2)]), (.call 33 [(.var 4), (.var 5), (.var 6)])]), .assign (.var 13) (.tup [(Qs 3), (.idx (.lst [(Qs 30), (Qs 31)]) (.bin .mod (.var 3) (Qi 2))), (.tup [(Qs 2), (Qx 11 2), (.glob 1)])]), .assign (.var 14) (.tup [(Qs 3), (.idx (.lst [(Qs 30), (Qs 31)]) (.bin .mod (.var 7) (Qi 2))), (.tup [(Qs 2), (Qx 12 2), (.glob 1)])]), .assign (.tup [(.var 15), (.var 16)]) (.tup [(.tup [(Qs 7), (.var 13), (Qx 11 0)]), (.tup [(Qs 7), (.var 14), (Qx 12 0)])]), .assign (.var 17) (.cmp .eq (Qx 11 1) (Qx 12 1)), .assign (.var 18) (.and [(.var 17), (.cmp .eq (.var 13) (.var 14))])]
noncomputable def b34b : List S := [.assign (.tup [(.var 19), (.var 20)]) (.tup [(.call 5 [(Qx 11 0), (Qx 12 0)]), (.call 5 [(.var 15), (.var 16)])]), .ite (.not (.and [(.isBool (.var 19)), (.isBool (.var 20))])) [.ret (.con (.bool false))] [], .ite (.cmp .ne (.tup [(.var 19), (.var 20), (.call 3 [(.var 15)])]) (.tup [(.var 17), (.var 18), (.bin .add (.lst [(.var 13)]) (Qx 11 3))])) [.ret (.con (.bool false))] []]
noncomputable def b34c : List S := [.assign (.tup [(.var 21), (.var 22), (.var 23)]) (.tup [(.call 27 [(.glob 1), (.var 15), (.var 16)]), (.call 27 [(.glob 1), (.var 16), (.var 15)]), (.call 27 [(.glob 1), (.var 15), (.var 15)])]), .assign (.var 24) (.tup [(Qs 4), (Qs 5), (.glob 4)]), .assign (.var 25) (.tup [(Qs 7), (.tup [(Qs 7), (.tup [(Qs 3), (Qs 5), (.glob 4)]), (.glob 5)]), (.glob 6)]), .assign (.tup [(.var 26), (.var 27)]) (.call 29 []), .assign (.var 26) (.bin .add (.var 26) (.lst [(.tup [(Qs 12), (.var 21)]), (.tup [(Qs 12), (.var 15)]), (.tup [(Qs 12), (.var 16)]), (.tup [(Qs 14), (Qi 2), (Qi 3)]), (.tup [(Qs 11), (.var 24)]), (.tup [(Qs 7), (Qi 6), (Qi 2)]), (.tup [(Qs 11), (.var 15)])])), .assign (.var 26) (.bin .add (.var 26) (.lst [(.tup [(Qs 7), (Qi 7), (Qi 8)]), (.tup [(Qs 14), (Qi 9), (Qi 8)]), (.tup [(Qs 14), (Qi 10), (Qi 4)]), (.tup [(Qs 13), (Qi 11), (Qi 5)]), (.tup [(Qs 12), (.glob 5)]), (.tup [(Qs 12), (.glob 6)])])), .assign (.var 26) (.bin .add (.var 26) (.lst [(.tup [(Qs 13), (Qi 13), (Qi 14)]), (.tup [(Qs 12), (.var 25)]), (.tup [(Qs 17), (.tup [(.tup [(.glob 5), (.var 15)]), (.tup [(.glob 6), (.var 16)])]), (Qi 15)])]))]
noncomputable def b34d : List S := [.assign (.var 27) (.bin .add (.var 27) (.lst [(.tup [(.tup [(.var 21)]), (.var 21)]), (.tup [(.tup [(.var 15)]), (.var 15)]), (.tup [(.tup [(.var 16)]), (.var 16)]), (.tup [(.tup [(.var 21), (.var 15)]), (.var 16)]), (.tup [(.tup []), (.call 27 [(.glob 4), (.var 24), (.var 24)])])])), .assign (.var 27) (.bin .add (.var 27) (.lst [(.tup [(.tup [(.var 21)]), (.call 27 [(.glob 3), (.tup [(Qs 7), (.var 24), (.var 15)]), (.tup [(Qs 7), (.var 24), (.var 16)])])]), (.tup [(.tup []), (.var 23)])])), .assign (.var 27) (.bin .add (.var 27) (.lst [(.tup [(.tup [(.var 21)]), (.call 27 [(.glob 1), (.var 23), (.var 22)])]), (.tup [(.tup [(.var 21)]), (.var 22)]), (.tup [(.tup [(.var 21), (.var 16)]), (.var 15)]), (.tup [(.tup [(.var 21)]), (.var 21)]), (.tup [(.tup [(.glob 5)]), (.glob 5)])])), .assign (.var 27) (.bin .add (.var 27) (.lst [(.tup [(.tup [(.glob 6)]), (.glob 6)]), (.tup [(.tup [(.glob 5), (.glob 6)]), (.call 27 [(.glob 1), (.glob 5), (.glob 6)])]), (.tup [(.tup [(.var 25)]), (.var 25)])])), .assign (.tup [(.var 28), (.var 29), (.var 30), (.var 31), (.var 32)]) (.tup [(.con .none), (.con .none), (.con .none), (.con .none), (.tup [(.var 15), (.var 16)])]), .ite (.var 18) [.assign (.tup [(.var 28), (.var 29), (.var 32)]) (.tup [(.tup [(.tup [(.var 21), (.var 16)]), (.var 16)]), (.tup [(.tup [(.var 21)]), (.var 21)]), (.tup [(.var 15)])])] [], .assign (.var 27) (.bin .add (.var 27) (.lst [(.tup [(.var 32), (.var 21)])]))]
noncomputable def b34e : List S := [.assign (.var 33) (.idx (.lst [(.glob 5), (.glob 6), (.glob 8)]) (.bin .mod (.var 8) (Qi 3))), .ite (.cmp .nmem (.var 33) (.bin .add (.bin .add (.lst [(.var 13), (.var 14)]) (Qx 11 3)) (Qx 12 3))) [.assign (.var 30) (.tup [(.tup [(.var 21)]), (.call 27 [(.tup [(Qs 2), (Qx 33 2), (.glob 1)]), (.tup [(Qs 6), (.var 33), (.var 15)]), (.tup [(Qs 6), (.var 33), (.var 16)])])])] [], .assign (.var 34) (.idx (.lst [(.neg (Qi 1)), (Qi 17), (Qi 18), (.var 9)]) (.bin .mod (.var 9) (Qi 4))), .ite (.btw (Qi 0) (.var 34) (Qi 18)) [.assign (.var 31) (.idx (.var 27) (.var 34))] []]
noncomputable def b34f : List S := [.assign (.var 35) (.lst [(.tup [(.tup [(Qs 14), (Qi 2), (Qi 4)]), (.var 28)]), (.tup [(.tup [(Qs 15), (Qi 2), (Qi 2)]), (.var 29)]), (.tup [(.tup [(Qs 6), (.var 33), (Qi 2)]), (.var 30)]), (.tup [(.tup [(Qs 17), (.tup []), (.var 34)]), (.var 31)])]), .assign (.var 35) (.bin .add (.var 35) (.lst [(.tup [(.tup [(Qs 15), (Qi 2), (Qi 10)]), (.tup [(.tup [(.var 21)]), (.var 23)])]), (.tup [(.tup [(Qs 14), (Qi 16), (Qi 13)]), (.con .none)]), (.tup [(.tup [(Qs 14), (Qi 3), (Qi 4)]), (.con .none)]), (.tup [(.tup [(Qs 15), (Qi 2), (Qi 14)]), (.con .none)])])), .assign (.var 35) (.bin .add (.var 35) (.lst [(.tup [(.tup [(Qs 7), (Qi 2), (Qi 2)]), (.con .none)]), (.tup [(.tup [(Qs 7), (Qi 7), (Qi 6)]), (.con .none)]), (.tup [(.tup [(Qs 32), (Qi 2)]), (.con .none)])])), .assign (.tup [(.var 36), (.var 37)]) (.idx (.var 35) (.bin .mod (.var 10) (Qi 11)))]
noncomputable def b34g : List S := [.ite (.cmp .ne (.call 28 [(.toTup (.var 26))]) (.var 27)) [.ret (.con (.bool false))] [], .assign (.var 38) (.con .none), .ite (.cmp .isNot (.var 37) (.con .none)) [.assign (.var 38) (.bin .add (.var 27) (.lst [(.var 37)]))] [], .ite (.cmp .ne (.call 28 [(.toTup (.bin .add (.var 26) (.lst [(.var 36)])))]) (.var 38)) [.ret (.con (.bool false))] [], .ret (.con (.bool true))]
theorem b34_is : b34 = b34a ++ (b34b ++ (b34c ++ (b34d ++ (b34e ++ (b34f ++ (b34g)))))) := rfl
noncomputable def oTh : Option Th → PyData
 | some t => eTh t
 | none => .none
noncomputable def eTr1 (t : Stp × Option Th) : PyData := .tuple [eStp t.1, oTh t.2]
theorem depth_told {t : Told} (h : ∀ c, t = .leaf c → c.dp ≤ 60) : (eTold t).depth ≤ 100 := by
 cases t with
 | outer => simp [eTold, PyData.depth]
 | inner => simp [eTold, PyData.depth]
 | leaf c => have := depth_tm c; have := h c rfl; simp only [eTold]; with_reducible exact Bd.t1 ‹_› this rfl
theorem cmp_lt2 {l m : La} (h : l.tm.dp ≤ 5) : cmpD .eq (eLt l) (eLt m) = some (.bool (near l m)) := by
 have h1 : l.a.t.dp ≤ 5 ∧ l.b.t.dp ≤ 5 ∧ l.c.dp ≤ 5 := by simp only [La.tm, Z114, Z115, Z116, Z117] at h; (apply And.intro <;> (first | exact Bd.m1 h | (with_reducible apply And.intro <;> (first | exact Bd.m12 h | exact Bd.m22 h))))
 have h2 := depth_ty l.a.t
 have h3 := depth_ty l.b.t
 have h4 : (eTold l.told).depth ≤ 100 := depth_told fun c hc => by
  unfold La.told toldOf at hc
  split at hc
  ·cases hc
  ·split at hc <;> cases hc
   lia
 refine cmpD_is _ _ _ ?_
 rw [cmp_e, if_pos (.inr (by simp only [dlim, eLt, PyData.depth, PyData.depthAll]; (apply Bd.sc; (apply Bd.mx <;> (first | (with_reducible apply Bd.mx <;> (first | (with_reducible apply Bd.mx <;> (first | exact Bd.wk h4 rfl | exact Bd.zz)) | lia)) | lia))))), eqv_lt]
theorem cmp_vr_eq {v w : Vr} (h : v.t.dp ≤ 60) : cmpD .eq (eVr v) (eVr w) = some (.bool (v.eq w)) := by
 have := depth_tm v.tm
 refine cmpD_is _ _ _ ?_
 rw [cmp_e, if_pos (.inr (by rw [eVr_tm]; simp only [dlim, Vr.tm, Z114, Z115, Z116, Z117] at *; exact Bd.t1 this h rfl)), eqv_vr]
theorem logic_a (n : Nat) (a0 a1 a2 a3 a4 a5 a6 a7 a8 a9 a10 : Int) (σ : Store) (i1 i2 i3 j1 j2 j3 k1 k2 : Nat) (l m : La) (f g : Bs) (h1 : Int.fmod a0 3 = i1) (h2 : Int.fmod a1 3 = i2) (h3 : Int.fmod a2 5 = i3) (h4 : Int.fmod a3 2 = k1) (h5 : Int.fmod a4 3 = j1) (h6 : Int.fmod a5 3 = j2) (h7 : Int.fmod a6 5 = j3) (h8 : Int.fmod a7 2 = k2)
  (l1 : i1 < 3) (l2 : i2 < 3) (l3 : i3 < 5) (l4 : k1 < 2) (l5 : j1 < 3) (l6 : j2 < 3) (l7 : j3 < 5) (l8 : k2 < 2)
  (g1 : poolV[i1]? = some l.a) (g2 : poolV[i2]? = some l.b) (g3 : poolC[i3]? = some l.c) (g4 : fgL[k1]? = some f) (g5 : poolV[j1]? = some m.a) (g6 : poolV[j2]? = some m.b) (g7 : poolC[j3]? = some m.c) (g8 : fgL[k2]? = some g) (hl : LaF f l) :
  exSs G (CF (n + 1)) b34a [Iv a0, Iv a1, Iv a2, Iv a3, Iv a4, Iv a5, Iv a6, Iv a7, Iv a8, Iv a9, Iv a10, none, none, none, none, none, none, none, none, none, none, none, none, none, none, none, none, none, none, none, none, none, none, none, none, none, none, none, none] σ =
  .next [Iv a0, Iv a1, Iv a2, Iv a3, Iv a4, Iv a5, Iv a6, Iv a7, Iv a8, Iv a9, Iv a10, Dv (eLa l), Dv (eLa m), Dv (eVr (pfv f l)), Dv (eVr (pfv g m)), Dv (eTm (pf f l)), Dv (eTm (pf g m)), Dv (.bool (near l m)), Dv (.bool (near l m && (pfv f l).eq (pfv g m))), none, none, none, none, none, none, none, none, none, none, none, none, none, none, none, none, none, none, none, none] σ := by
 have c1 := call_law_lam n σ a0 a1 a2 i1 i2 i3 l h1 h2 h3 l1 l2 l3 g1 g2 g3
 have c2 := call_law_lam n σ a4 a5 a6 j1 j2 j3 m h5 h6 h7 l5 l6 l7 g5 g6 g7
 have q1 := idx_listE eNm fgL k1 g4 (by exact Bd.ll l4 rfl)
 have q2 := idx_listE eNm fgL k2 g8 (by exact Bd.ll l8 rfl)
 have e1 : fgL.map eNm = [.str (st 30), .str (st 31)] := rfl
 rw [e1] at q1 q2
 have hn := cmp_lt2 (m := m) hl.lt
 have hv := cmp_vr_eq (v := pfv f l) (w := pfv g m) (by have := hl.td; simp only [pfv, Z150, Z151, Z152, Z153]; (apply Bd.sc; (apply Bd.mx <;> (first | exact Bd.wk this rfl | exact Bd.zz))))
 have e2 : eVr (pfv f l) = .tuple [.str (st 3), .str (nm f 0), .tuple [.str (st 2), eTy l.ty, eTy .bool]] := rfl
 have e3 : eVr (pfv g m) = .tuple [.str (st 3), .str (nm g 0), .tuple [.str (st 2), eTy m.ty, eTy .bool]] := rfl
 have i3l (l : La) : idxOp (eLa l) (.int 3) = some (.list (l.lo.map eVr)) := rfl
 rw [e2, e3] at hv
 simp only [EV, b34a, c1, c2]
 simp only [EV, eLa, mod_int _ 2 (by decide), h4, h8, q1, q2, eNm, G1, hn, hv]
 cases hq : near l m with
 | false => simp only [EV, Bool.false_and]; rfl
 | true =>
  cases hq2 : (pfv f l).eq (pfv g m) with
  | false => rw [hq2] at hv; simp only [EV, Bool.true_and, hv]; rfl
  | true => rw [hq2] at hv; simp only [EV, Bool.true_and, hv]; rfl
theorem logic_b (n : Nat) (hn : 100 ≤ n) (a0 a1 a2 a3 a4 a5 a6 a7 a8 a9 a10 : Int) (σ : Store) (l m : La) (f g : Bs) (hl : l ∈ laL) (hm : m ∈ laL) (Fl : LaF f l) (Fm : LaF g m) :
  exSs G (CF n) b34b [Iv a0, Iv a1, Iv a2, Iv a3, Iv a4, Iv a5, Iv a6, Iv a7, Iv a8, Iv a9, Iv a10, Dv (eLa l), Dv (eLa m), Dv (eVr (pfv f l)), Dv (eVr (pfv g m)), Dv (eTm (pf f l)), Dv (eTm (pf g m)), Dv (.bool (near l m)), Dv (.bool (near l m && (pfv f l).eq (pfv g m))), none, none, none, none, none, none, none, none, none, none, none, none, none, none, none, none, none, none, none, none] σ =
  .next [Iv a0, Iv a1, Iv a2, Iv a3, Iv a4, Iv a5, Iv a6, Iv a7, Iv a8, Iv a9, Iv a10, Dv (eLa l), Dv (eLa m), Dv (eVr (pfv f l)), Dv (eVr (pfv g m)), Dv (eTm (pf f l)), Dv (eTm (pf g m)), Dv (.bool (near l m)), Dv (.bool (near l m && (pfv f l).eq (pfv g m))), Dv (.bool (near l m)), Dv (.bool (near l m && (pfv f l).eq (pfv g m))), none, none, none, none, none, none, none, none, none, none, none, none, none, none, none, none, none, none] σ := by
 have c1 := call_alike l.tm m.tm n σ (by have := Fl.lt; exact Bd.wkn this hn rfl) (by have := Fm.lt; exact Bd.wkn this hn rfl) (by have := Fl.lt; exact Bd.wk this rfl) (by have := Fm.lt; exact Bd.wk this rfl)
 have c2 := call_alike (pf f l) (pf g m) n σ (by have := Fl.pq.dp; exact Bd.wkn this hn rfl) (by have := Fm.pq.dp; exact Bd.wkn this hn rfl) (by have := Fl.pq.dp; exact Bd.wk this rfl) (by have := Fm.pq.dp; exact Bd.wk this rfl)
 have c3 := call_free (pf f l) n σ (by have := Fl.pq.dp; exact Bd.wkn this hn rfl) (by have := Fl.pq.dp; exact Bd.wk this rfl) (by have := Fl.pq.sz; exact Bd.wk this rfl)
 rw [near_is hl hm] at c1
 rw [alike_pf hl hm] at c2
 rw [Fl.fr] at c3
 have i0 (l : La) : idxOp (eLa l) (.int 0) = some (eTm l.tm) := rfl
 have i3 (l : La) : idxOp (eLa l) (.int 3) = some (.list (l.lo.map eVr)) := rfl
 have hb : binOp .add (.list [eVr (pfv f l)]) (.list (l.lo.map eVr)) = some (.list ((pfv f l :: l.lo).map eVr)) := by
  rw [bin_small (by have := Fl.ll; simp; lia)]; rfl
 have hv : (pfv f l).t.dp ≤ 60 := by have := Fl.td; simp only [pfv, Z150, Z151, Z152, Z153]; (apply Bd.sc; (apply Bd.mx <;> (first | exact Bd.wk this rfl | exact Bd.zz)))
 have hlo : ∀ v ∈ pfv f l :: l.lo, (eVr v).depth ≤ 100 := by
  intro v hvm
  have h1 : v ∈ freeV (pf f l) := by rw [Fl.fr]; exact hvm
  have h2 := free_dp (pf f l) [] [] 10 Fl.pq.dp (fun v hv => by cases hv) v h1
  have := depth_tm v.tm
  rw [eVr_tm]
  simp only [Vr.tm, Z114, Z115, Z116, Z117] at *
  exact Bd.t1 this h2 rfl
 have hne : cmpD .ne (.tuple [.bool (near l m), .bool (near l m && (pfv f l).eq (pfv g m)), .list ((pfv f l :: l.lo).map eVr)]) (.tuple [.bool (near l m), .bool (near l m && (pfv f l).eq (pfv g m)), .list ((pfv f l :: l.lo).map eVr)]) = some (.bool false) := by
  refine ne_self ?_ ?_
  ·simp only [Z154, Z155, Z156, Z157, Z158, Z159, Z160, Z140, Z141, Bool.true_and, Bool.and_true]; exact pln_all (enc := eVr) (fun v => pln_tm v.tm) _
  ·have := depth_all (enc := eVr) (D := 100) (pfv f l :: l.lo) hlo
   simp only [PyData.depth, PyData.depthAll]; (apply Bd.sc; (apply Bd.mx <;> (first | exact Bd.zz | (with_reducible apply Bd.mx <;> (first | exact Bd.zz | (with_reducible apply Bd.mx <;> (first | exact Bd.zz | exact Bd.wkc this rfl)))))))
 simp only [EV, b34b, i0, c1, c2, c3, i3, hb, hne]
theorem logic_c (n : Nat) (x0 x1 x2 x3 x4 x5 x6 x7 x8 x9 x10 x17 x19 x20 : Option V) (l m : La) (σ : Store) (vf vg : Vr) (p q : Tm) (same : Bool) :
  exSs G (CF (n + 2)) b34c [x0, x1, x2, x3, x4, x5, x6, x7, x8, x9, x10, Dv (eLa l), Dv (eLa m), Dv (eVr vf), Dv (eVr vg), Dv (eTm p), Dv (eTm q), x17, Dv (.bool same), x19, x20, none, none, none, none, none, none, none, none, none, none, none, none, none, none, none, none, none, none] σ =
  .next [x0, x1, x2, x3, x4, x5, x6, x7, x8, x9, x10, Dv (eLa l), Dv (eLa m), Dv (eVr vf), Dv (eVr vg), Dv (eTm p), Dv (eTm q), x17, Dv (.bool same), x19, x20, Dv (eTm (lE p q)), Dv (eTm (lE q p)), Dv (eTm (lE p p)), Dv (eTm tSign), Dv (eTm tOdd), Dv (.list ((headS ++ steps1 p q).map eStp)), Dv (.list (headD.map eTh)), none, none, none, none, none, none, none, none, none, none, none] σ := by
 have c1 := call_law_eq (n + 1) σ .bool p q
 have c2 := call_law_eq (n + 1) σ .bool q p
 have c3 := call_law_eq (n + 1) σ .bool p p
 have c4 := call_law_head n σ
 simp only [EV, b34c, G1, G4, G5, G6, c1, c2, c3, c4]
 simp only [EV, headS, List.map_cons, List.map_nil, G5, G6, bin_small, List.cons_append, List.nil_append, Nat.reduceLeDiff]
 rfl
theorem logic_d (n : Nat) (x0 x1 x2 x3 x4 x5 x6 x7 x8 x9 x10 x17 x19 x20 : Option V) (l m : La) (σ : Store) (vf vg : Vr) (p q : Tm) (same : Bool) :
  exSs G (CF (n + 2)) b34d [x0, x1, x2, x3, x4, x5, x6, x7, x8, x9, x10, Dv (eLa l), Dv (eLa m), Dv (eVr vf), Dv (eVr vg), Dv (eTm p), Dv (eTm q), x17, Dv (.bool same), x19, x20, Dv (eTm (lE p q)), Dv (eTm (lE q p)), Dv (eTm (lE p p)), Dv (eTm tSign), Dv (eTm tOdd), Dv (.list ((headS ++ steps1 p q).map eStp)), Dv (.list (headD.map eTh)), none, none, none, none, none, none, none, none, none, none, none] σ =
  .next [x0, x1, x2, x3, x4, x5, x6, x7, x8, x9, x10, Dv (eLa l), Dv (eLa m), Dv (eVr vf), Dv (eVr vg), Dv (eTm p), Dv (eTm q), x17, Dv (.bool same), x19, x20, Dv (eTm (lE p q)), Dv (eTm (lE q p)), Dv (eTm (lE p p)), Dv (eTm tSign), Dv (eTm tOdd), Dv (.list ((headS ++ steps1 p q).map eStp)), Dv (.list ((due1 p q same).map eTh)), Dv (oTh (if same then some ⟨[lE p q, q], q⟩ else none)), Dv (oTh (if same then some ⟨[lE p q], lE p q⟩ else none)), Dv .none, Dv .none, Dv (.tuple ((hyps1 p q same).map eTm)), none, none, none, none, none, none] σ := by
 have c1 := call_law_eq (n + 1) σ bbb tSign tSign
 have c2 := call_law_eq (n + 1) σ bb (.app tSign p) (.app tSign q)
 have e2 : eTm (.app tSign p) = .tuple [.str (st 7), eTm tSign, eTm p] := rfl
 have e2' : eTm (.app tSign q) = .tuple [.str (st 7), eTm tSign, eTm q] := rfl
 rw [e2, e2'] at c2
 have c3 := call_law_eq (n + 1) σ .bool (lE p p) (lE q p)
 have c4 := call_law_eq (n + 1) σ .bool vx.tm vy.tm
 have e4 : eTm vx.tm = eVr vx := rfl
 have e4' : eTm vy.tm = eVr vy := rfl
 rw [e4, e4'] at c4
 generalize (headS ++ steps1 p q).map eStp = SS
 simp only [EV, b34d, headD, List.map_cons, List.map_nil, G1, G3, G4, G5, G6, c1, c2, c3, c4, bin_small, List.cons_append, List.nil_append, Nat.reduceLeDiff]
 cases same with
 | false =>
  simp only [EV, headD, List.map_cons, List.map_nil, bin_small, List.cons_append, List.nil_append, Nat.reduceLeDiff]
  rfl
 | true =>
  simp only [EV, headD, List.map_cons, List.map_nil, bin_small, List.cons_append, List.nil_append, Nat.reduceLeDiff]
  rfl
theorem e_btw_int {C : CallT} {fr : Frame} {σ : Store} {i : Nat} {num : Int} (h : fr[i]? = some (Iv num)) : evE G C (.btw (Qi 0) (.var i) (Qi 18)) fr σ = .ok (.d (.bool (decide (0 ≤ num) && decide (num < 18)))) σ := by
 rw [evx_btw]
 simp only [e_con, e_var, h, varK_some, Res.bind_ok, deref, Res.of_some, cmpOp, intC, dInt, Option.bind_some, Option.map_some]
 by_cases h0 : 0 ≤ num <;> simp [h0]
noncomputable def numL (a : Int) : List Int := [-1, 17, 18, a]
theorem logic_e (n : Nat) (x0 x1 x2 x3 x4 x5 x6 x7 x10 x17 x19 x20 : Option V) (l m : La) (σ : Store) (vf vg : Vr) (p q : Tm) (same : Bool) (a8 a9 num : Int) (h : Vr) (b : Bool) (four : Option Th) (i j : Nat) (hi : Int.fmod a8 3 = i) (hj : Int.fmod a9 4 = j) (li : i < 3) (lj : j < 4)
  (gh : poolV[i]? = some h) (gn : (numL a9)[j]? = some num) (ll : l.lo.length ≤ 5) (lm : m.lo.length ≤ 5) (hb : b = memv h ([vf, vg] ++ l.lo ++ m.lo)) (hf : four = if 0 ≤ num ∧ num < 18 then (due1 p q same)[num.toNat]? else none) (hh : h.t.dp ≤ 5) :
  exSs G (CF (n + 2)) b34e [x0, x1, x2, x3, x4, x5, x6, x7, Iv a8, Iv a9, x10, Dv (eLa l), Dv (eLa m), Dv (eVr vf), Dv (eVr vg), Dv (eTm p), Dv (eTm q), x17, Dv (.bool same), x19, x20, Dv (eTm (lE p q)), Dv (eTm (lE q p)), Dv (eTm (lE p p)), Dv (eTm tSign), Dv (eTm tOdd), Dv (.list ((headS ++ steps1 p q).map eStp)), Dv (.list ((due1 p q same).map eTh)), Dv (oTh (if same then some ⟨[lE p q, q], q⟩ else none)), Dv (oTh (if same then some ⟨[lE p q], lE p q⟩ else none)), Dv .none, Dv .none, Dv (.tuple ((hyps1 p q same).map eTm)), none, none, none, none, none, none] σ =
  .next [x0, x1, x2, x3, x4, x5, x6, x7, Iv a8, Iv a9, x10, Dv (eLa l), Dv (eLa m), Dv (eVr vf), Dv (eVr vg), Dv (eTm p), Dv (eTm q), x17, Dv (.bool same), x19, x20, Dv (eTm (lE p q)), Dv (eTm (lE q p)), Dv (eTm (lE p p)), Dv (eTm tSign), Dv (eTm tOdd), Dv (.list ((headS ++ steps1 p q).map eStp)), Dv (.list ((due1 p q same).map eTh)), Dv (oTh (if same then some ⟨[lE p q, q], q⟩ else none)), Dv (oTh (if same then some ⟨[lE p q], lE p q⟩ else none)), Dv (oTh (third1 p q h b)), Dv (oTh four), Dv (.tuple ((hyps1 p q same).map eTm)), Dv (eVr h), Iv num, none, none, none, none] σ := by
 have q1 := idx_listE eVr poolV i gh (by exact Bd.ll li rfl)
 have e1 : poolV.map eVr = [eVr vx, eVr vy, eVr vz] := rfl
 rw [e1] at q1
 have q2 := idx_listE PyData.int (numL a9) j gn (by exact Bd.ll lj rfl)
 have e2 : (numL a9).map PyData.int = [.int (-1), .int 17, .int 18, .int a9] := rfl
 rw [e2] at q2
 have i3 (l : La) : idxOp (eLa l) (.int 3) = some (.list (l.lo.map eVr)) := rfl
 have i2 : idxOp (eVr h) (.int 2) = some (eTy h.t) := rfl
 have b1 : binOp .add (.list [eVr vf, eVr vg]) (.list (l.lo.map eVr)) = some (.list (([vf, vg] ++ l.lo).map eVr)) := by rw [bin_small (by simp; lia)]; simp
 have b2 : binOp .add (.list (([vf, vg] ++ l.lo).map eVr)) (.list (m.lo.map eVr)) = some (.list (([vf, vg] ++ l.lo ++ m.lo).map eVr)) := by rw [bin_small (by simp; lia)]; simp
 have hn : cmpD .nmem (eVr h) (.list (([vf, vg] ++ l.lo ++ m.lo).map eVr)) = some (.bool (!b)) := by rw [hb]; exact nmem_vr (x := h.x) (k := h.k) (t := h.t) _ (by exact Bd.wk hh rfl)
 have c1 := call_law_eq (n + 1) σ (.fn h.t .bool) (.lam h.x h.k h.t p) (.lam h.x h.k h.t q)
 have e3 : eTm (.lam h.x h.k h.t p) = .tuple [.str (st 6), eVr h, eTm p] := rfl
 have e3' : eTm (.lam h.x h.k h.t q) = .tuple [.str (st 6), eVr h, eTm q] := rfl
 have e3'' : eTy (.fn h.t .bool) = .tuple [.str (st 2), eTy h.t, eTy .bool] := rfl
 rw [e3, e3', e3''] at c1
 have hneg : (-(1 : Int)) = -1 := rfl
 have key : ∀ (th : PyData), exSs G (CF (n + 2)) [.assign (.var 34) (.idx (.lst [(.neg (Qi 1)), (Qi 17), (Qi 18), (.var 9)]) (.bin .mod (.var 9) (Qi 4))), .ite (.btw (Qi 0) (.var 34) (Qi 18)) [.assign (.var 31) (.idx (.var 27) (.var 34))] []] [x0, x1, x2, x3, x4, x5, x6, x7, Iv a8, Iv a9, x10, Dv (eLa l), Dv (eLa m), Dv (eVr vf), Dv (eVr vg), Dv (eTm p), Dv (eTm q), x17, Dv (.bool same), x19, x20, Dv (eTm (lE p q)), Dv (eTm (lE q p)), Dv (eTm (lE p p)), Dv (eTm tSign), Dv (eTm tOdd), Dv (.list ((headS ++ steps1 p q).map eStp)), Dv (.list ((due1 p q same).map eTh)), Dv (oTh (if same then some ⟨[lE p q, q], q⟩ else none)), Dv (oTh (if same then some ⟨[lE p q], lE p q⟩ else none)), Dv th, Dv .none, Dv (.tuple ((hyps1 p q same).map eTm)), Dv (eVr h), none, none, none, none, none] σ = .next [x0, x1, x2, x3, x4, x5, x6, x7, Iv a8, Iv a9, x10, Dv (eLa l), Dv (eLa m), Dv (eVr vf), Dv (eVr vg), Dv (eTm p), Dv (eTm q), x17, Dv (.bool same), x19, x20, Dv (eTm (lE p q)), Dv (eTm (lE q p)), Dv (eTm (lE p p)), Dv (eTm tSign), Dv (eTm tOdd), Dv (.list ((headS ++ steps1 p q).map eStp)), Dv (.list ((due1 p q same).map eTh)), Dv (oTh (if same then some ⟨[lE p q, q], q⟩ else none)), Dv (oTh (if same then some ⟨[lE p q], lE p q⟩ else none)), Dv th, Dv (oTh four), Dv (.tuple ((hyps1 p q same).map eTm)), Dv (eVr h), Iv num, none, none, none, none] σ := by
  intro th
  generalize (headS ++ steps1 p q).map eStp = SS
  simp only [EV, mod_int _ 4 (by decide), hj, hneg, q2]
  rw [e_btw_int (num := num) rfl]
  by_cases h0 : 0 ≤ num ∧ num < 18
  ·obtain ⟨k, rfl⟩ := Int.eq_ofNat_of_zero_le h0.1
   rw [if_pos h0, Int.toNat_natCast] at hf
   have hk : k < 18 := by lia
   obtain ⟨t, ht⟩ := get_of (l := due1 p q same) hk rfl
   rw [ht] at hf
   have q3 := idx_listE eTh (due1 p q same) k ht (by exact Bd.ll hk rfl)
   have d1 : (decide (0 ≤ (k : Int)) && decide ((k : Int) < 18)) = true := by simp; lia
   subst hf
   simp only [EV, d1, q3, oTh]
  ·rw [if_neg h0] at hf
   have d1 : (decide (0 ≤ num) && decide (num < 18)) = false := by
    rw [Bool.and_eq_false_iff, decide_eq_false_iff_not, decide_eq_false_iff_not]; lia
   subst hf
   simp only [EV, d1, oTh]
 have hs : b34e = [.assign (.var 33) (.idx (.lst [(.glob 5), (.glob 6), (.glob 8)]) (.bin .mod (.var 8) (Qi 3))), .ite (.cmp .nmem (.var 33) (.bin .add (.bin .add (.lst [(.var 13), (.var 14)]) (Qx 11 3)) (Qx 12 3))) [.assign (.var 30) (.tup [(.tup [(.var 21)]), (.call 27 [(.tup [(Qs 2), (Qx 33 2), (.glob 1)]), (.tup [(Qs 6), (.var 33), (.var 15)]), (.tup [(Qs 6), (.var 33), (.var 16)])])])] []] ++
   [.assign (.var 34) (.idx (.lst [(.neg (Qi 1)), (Qi 17), (Qi 18), (.var 9)]) (.bin .mod (.var 9) (Qi 4))), .ite (.btw (Qi 0) (.var 34) (Qi 18)) [.assign (.var 31) (.idx (.var 27) (.var 34))] []] := rfl
 rw [hs]
 refine (seq_next ?_).trans (key (oTh (third1 p q h b)))
 generalize (headS ++ steps1 p q).map eStp = SS
 generalize (due1 p q same).map eTh = DD
 simp only [EV, mod_int _ 3 (by decide), hi, G5, G6, G8, G1, q1, i3, b1, b2, hn]
 cases b with
 | true => simp only [EV, third1, if_true, oTh]
 | false =>
  simp only [EV, i2, G1, c1]
  rfl
theorem logic_f (n : Nat) (x0 x1 x2 x3 x4 x5 x6 x7 x8 x9 x17 x19 x20 : Option V) (l m : La) (σ : Store) (vf vg : Vr) (p q : Tm) (same : Bool) (a10 num : Int) (h : Vr) (b : Bool) (four : Option Th) (k : Nat) (hk : Int.fmod a10 11 = k) (lk : k < 11) (tr : Stp × Option Th) (ht : (trL p q same h b num four)[k]? = some tr) :
  exSs G (CF n) b34f [x0, x1, x2, x3, x4, x5, x6, x7, x8, x9, Iv a10, Dv (eLa l), Dv (eLa m), Dv (eVr vf), Dv (eVr vg), Dv (eTm p), Dv (eTm q), x17, Dv (.bool same), x19, x20, Dv (eTm (lE p q)), Dv (eTm (lE q p)), Dv (eTm (lE p p)), Dv (eTm tSign), Dv (eTm tOdd), Dv (.list ((headS ++ steps1 p q).map eStp)), Dv (.list ((due1 p q same).map eTh)), Dv (oTh (if same then some ⟨[lE p q, q], q⟩ else none)), Dv (oTh (if same then some ⟨[lE p q], lE p q⟩ else none)), Dv (oTh (third1 p q h b)), Dv (oTh four), Dv (.tuple ((hyps1 p q same).map eTm)), Dv (eVr h), Iv num, none, none, none, none] σ =
  .next [x0, x1, x2, x3, x4, x5, x6, x7, x8, x9, Iv a10, Dv (eLa l), Dv (eLa m), Dv (eVr vf), Dv (eVr vg), Dv (eTm p), Dv (eTm q), x17, Dv (.bool same), x19, x20, Dv (eTm (lE p q)), Dv (eTm (lE q p)), Dv (eTm (lE p p)), Dv (eTm tSign), Dv (eTm tOdd), Dv (.list ((headS ++ steps1 p q).map eStp)), Dv (.list ((due1 p q same).map eTh)), Dv (oTh (if same then some ⟨[lE p q, q], q⟩ else none)), Dv (oTh (if same then some ⟨[lE p q], lE p q⟩ else none)), Dv (oTh (third1 p q h b)), Dv (oTh four), Dv (.tuple ((hyps1 p q same).map eTm)), Dv (eVr h), Iv num, Dv (.list ((trL p q same h b num four).map eTr1)), Dv (eStp tr.1), Dv (oTh tr.2), none] σ := by
 have q1 := idx_listE eTr1 (trL p q same h b num four) k ht (by exact Bd.ll lk rfl)
 have e1 : (trL p q same h b num four).map eTr1 = [.tuple [.tuple [.str (st 14), .int 2, .int 4], oTh (if same then some ⟨[lE p q, q], q⟩ else none)], .tuple [.tuple [.str (st 15), .int 2, .int 2], oTh (if same then some ⟨[lE p q], lE p q⟩ else none)], .tuple [.tuple [.str (st 6), eVr h, .int 2], oTh (third1 p q h b)], .tuple [.tuple [.str (st 17), .tuple [], .int num], oTh four], .tuple [.tuple [.str (st 15), .int 2, .int 10], .tuple [.tuple [eTm (lE p q)], eTm (lE p p)]], .tuple [.tuple [.str (st 14), .int 16, .int 13], .none], .tuple [.tuple [.str (st 14), .int 3, .int 4], .none], .tuple [.tuple [.str (st 15), .int 2, .int 14], .none], .tuple [.tuple [.str (st 7), .int 2, .int 2], .none], .tuple [.tuple [.str (st 7), .int 7, .int 6], .none], .tuple [.tuple [.str (st 32), .int 2], .none]] := rfl
 have e2 : .list ((trL p q same h b num four).map eTr1) = PyData.list _ := congrArg PyData.list e1
 rw [e1] at q1 ⊢
 generalize (headS ++ steps1 p q).map eStp = SS
 generalize (due1 p q same).map eTh = DD
 simp only [EV, b34f, bin_small, List.cons_append, List.nil_append, Nat.reduceLeDiff, mod_int _ 11 (by decide), hk, q1, eTr1]
theorem is_not_th (t : Th) : cmpD .isNot (eTh t) .none = some (.bool true) := rfl
theorem is_not_none : cmpD .isNot .none .none = some (.bool false) := rfl
theorem logic_g (n : Nat) (hn : 500 ≤ n) (y0 y1 y2 y3 y4 y5 y6 y7 y8 y9 y10 y11 y12 y13 y14 y15 y16 y17 y18 y19 y20 y21 y22 y23 y24 y25 y28 y29 y30 y31 y32 y33 y34 y35 : Option V) (σ : Store) (S1 : List Stp) (DU : List Th) (tr : Stp × Option Th) (hS : S1.length ≤ 50) (hU : DU.length ≤ 50) (hD : ∀ th ∈ DU, MoTh th) (ht : ∀ t, tr.2 = some t → MoTh t)
  (r1 : Runs ([], []) (headS ++ S1) (some (DU, headC))) (r2 : Runs ([], []) (headS ++ S1 ++ [tr.1]) (oRun DU tr.2)) :
  exSs G (CF n) b34g [y0, y1, y2, y3, y4, y5, y6, y7, y8, y9, y10, y11, y12, y13, y14, y15, y16, y17, y18, y19, y20, y21, y22, y23, y24, y25, Dv (.list ((headS ++ S1).map eStp)), Dv (.list (DU.map eTh)), y28, y29, y30, y31, y32, y33, y34, y35, Dv (eStp tr.1), Dv (oTh tr.2), none] σ = .ret (.d (.bool true)) σ := by
 obtain ⟨m, rfl⟩ : ∃ m, n = m + 1 := ⟨n - 1, by exact Bd.pr1 hn⟩
 have h1 := call_law_try m (by exact Bd.fn hn rfl) σ (headS ++ S1) (by simp [headS]; exact Bd.wk hS rfl) r1.good
 have h2 := call_law_try m (by exact Bd.fn hn rfl) σ (headS ++ S1 ++ [tr.1]) (by simp [headS]; exact Bd.wk hS rfl) r2.good
 have e1 : run0 (headS ++ S1) = some (DU, headC) := r1.fold
 have e2 : run0 (headS ++ S1 ++ [tr.1]) = oRun DU tr.2 := r2.fold
 rw [e1] at h1
 rw [e2] at h2
 have hl : ((headS ++ S1).map eStp).length ≤ 100 := by simp [headS]; exact Bd.wk hS rfl
 have e3 : (headS ++ S1 ++ [tr.1]).map eStp = (headS ++ S1).map eStp ++ [eStp tr.1] := by rw [List.map_append]; rfl
 rw [e3] at h2
 have t1 : toTupOp (.list ((headS ++ S1).map eStp)) = some (.tuple ((headS ++ S1).map eStp)) := toTup_is rfl (by simp only [lim]; exact Bd.wk hl rfl)
 have t2 : toTupOp (.list ((headS ++ S1).map eStp ++ [eStp tr.1])) = some (.tuple ((headS ++ S1).map eStp ++ [eStp tr.1])) := toTup_is rfl (by rw [List.length_append]; simp only [lim, List.length_cons, List.length_nil]; exact Bd.wkc hl rfl)
 have b1 : binOp .add (.list ((headS ++ S1).map eStp)) (.list [eStp tr.1]) = some (.list ((headS ++ S1).map eStp ++ [eStp tr.1])) := bin_small (by simp only [List.length_cons, List.length_nil]; exact Bd.wkc hl rfl)
 have self (D : List Th) (hD : ∀ th ∈ D, MoTh th) : cmpD .ne (.list (D.map eTh)) (.list (D.map eTh)) = some (.bool false) := by
  refine ne_self (by simp only [Z154, Z155, Z156, Z157, Z158, Z159, Z160]; exact pln_all pln_th D) ?_
  have := depth_all (enc := eTh) (D := 70) D fun t ht => depth_th (hD t ht)
  simp only [PyData.depth]; exact Bd.wkc this rfl
 have n1 := self DU hD
 have hnn : cmpD .ne .none .none = some (.bool false) := ne_self (x := .none) rfl (by simp [PyData.depth])
 generalize (headS ++ S1).map eStp = SS at h1 h2 t1 t2 b1 ⊢
 cases hw : tr.2 with
 | none =>
  rw [hw] at h2
  simp only [oRun, Option.map_none] at h2
  simp only [eRun] at h1 h2
  simp only [EV, b34g, oTh, t1, h1, n1, is_not_none, b1, t2, h2, hnn]
 | some t =>
  rw [hw] at h2
  simp only [oRun, Option.map_some] at h2
  simp only [eRun] at h1 h2
  have b2 : binOp .add (.list (DU.map eTh)) (.list [eTh t]) = some (.list ((DU ++ [t]).map eTh)) := by rw [bin_small (by simp; exact Bd.wk hU rfl)]; simp
  have n2 := self (DU ++ [t]) (mo_snoc hD (ht t hw))
  simp only [EV, b34g, oTh, t1, h1, n1, is_not_th, b2, b1, t2, h2, n2]
theorem call_law_logic (n : Nat) (hn : 502 ≤ n) (a0 a1 a2 a3 a4 a5 a6 a7 a8 a9 a10 : Int) (σ : Store) : CF (n + 1) 34 [.d (.int a0), .d (.int a1), .d (.int a2), .d (.int a3), .d (.int a4), .d (.int a5), .d (.int a6), .d (.int a7), .d (.int a8), .d (.int a9), .d (.int a10)] σ = .ok (.d (.bool true)) σ := by
 obtain ⟨i1, l1, e1⟩ := fmod_nat a0 3 (by decide)
 obtain ⟨i2, l2, e2⟩ := fmod_nat a1 3 (by decide)
 obtain ⟨i3, l3, e3⟩ := fmod_nat a2 5 (by decide)
 obtain ⟨k1, l4, e4⟩ := fmod_nat a3 2 (by decide)
 obtain ⟨j1, l5, e5⟩ := fmod_nat a4 3 (by decide)
 obtain ⟨j2, l6, e6⟩ := fmod_nat a5 3 (by decide)
 obtain ⟨j3, l7, e7⟩ := fmod_nat a6 5 (by decide)
 obtain ⟨k2, l8, e8⟩ := fmod_nat a7 2 (by decide)
 obtain ⟨ih, l9, e9⟩ := fmod_nat a8 3 (by decide)
 obtain ⟨jn, l10, e10⟩ := fmod_nat a9 4 (by decide)
 obtain ⟨kt, l11, e11⟩ := fmod_nat a10 11 (by decide)
 obtain ⟨la, g1⟩ := get_of (l := poolV) l1 rfl
 obtain ⟨lb, g2⟩ := get_of (l := poolV) l2 rfl
 obtain ⟨lc, g3⟩ := get_of (l := poolC) l3 rfl
 obtain ⟨f, g4⟩ := get_of (l := fgL) l4 rfl
 obtain ⟨ma, g5⟩ := get_of (l := poolV) l5 rfl
 obtain ⟨mb, g6⟩ := get_of (l := poolV) l6 rfl
 obtain ⟨mc, g7⟩ := get_of (l := poolC) l7 rfl
 obtain ⟨g, g8⟩ := get_of (l := fgL) l8 rfl
 obtain ⟨h, g9⟩ := get_of (l := poolV) l9 rfl
 obtain ⟨num, g10⟩ := get_of (l := numL a9) l10 rfl
 obtain ⟨l, rfl, rfl, rfl⟩ : ∃ l : La, l.a = la ∧ l.b = lb ∧ l.c = lc := ⟨⟨la, lb, lc⟩, rfl, rfl, rfl⟩
 obtain ⟨m, rfl, rfl, rfl⟩ : ∃ m : La, m.a = ma ∧ m.b = mb ∧ m.c = mc := ⟨⟨ma, mb, mc⟩, rfl, rfl, rfl⟩
 have hl := la_mem (List.mem_of_getElem? g1) (List.mem_of_getElem? g2) (List.mem_of_getElem? g3)
 have hm := la_mem (List.mem_of_getElem? g5) (List.mem_of_getElem? g6) (List.mem_of_getElem? g7)
 have Fl := laF (List.mem_of_getElem? g4) hl
 have Fm := laF (List.mem_of_getElem? g8) hm
 have hhd : h.t.dp ≤ 5 ∧ h.k ≤ 5 := by
  have hv : poolV.all (fun v => Nat.ble v.t.dp 5 && Nat.ble v.k 5) = true := by decide
  have := List.all_eq_true.mp hv h (List.mem_of_getElem? g9)
  rw [Bool.and_eq_true, Nat.ble_eq, Nat.ble_eq] at this
  exact this
 have hsame := alike_pf (f := f) (g := g) hl hm
 obtain ⟨b, hb⟩ : ∃ b, b = memv h ([pfv f l, pfv g m] ++ l.lo ++ m.lo) := ⟨_, rfl⟩
 have hb' : memv h (freeV (lE (pf f l) (pf g m))) = b := by rw [hb]; exact free_two Fl Fm h
 obtain ⟨four, hf⟩ : ∃ four, four = if 0 ≤ num ∧ num < 18 then (due1 (pf f l) (pf g m) (alike (pf f l) (pf g m)))[num.toNat]? else none := ⟨_, rfl⟩
 obtain ⟨tr, ht⟩ := get_of (l := trL (pf f l) (pf g m) (alike (pf f l) (pf g m)) h b num four) l11 rfl
 obtain ⟨r1, mt⟩ := trial1 Fl.pq Fm.pq h hhd.1 hhd.2 b hb' num four hf ht
 have ra : Runs ([], []) (headS ++ steps1 (pf f l) (pf g m)) (some (due1 (pf f l) (pf g m) (alike (pf f l) (pf g m)), headC)) := by
  have := runs_head (runs1 Fl.pq Fm.pq (.nil (due1 (pf f l) (pf g m) (alike (pf f l) (pf g m)), headC)))
  rw [List.append_nil] at this
  exact this
 have rb : Runs ([], []) (headS ++ steps1 (pf f l) (pf g m) ++ [tr.1]) (oRun (due1 (pf f l) (pf g m) (alike (pf f l) (pf g m))) tr.2) := by
  have := runs_head (runs1 Fl.pq Fm.pq r1)
  rw [← List.append_assoc] at this
  exact this
 obtain ⟨n, rfl⟩ : ∃ k, n = k + 2 := ⟨n - 2, by exact Bd.pr2 hn⟩
 have ha := logic_a (n + 1) a0 a1 a2 a3 a4 a5 a6 a7 a8 a9 a10 σ i1 i2 i3 j1 j2 j3 k1 k2 l m f g e1 e2 e3 e4 e5 e6 e7 e8 l1 l2 l3 l4 l5 l6 l7 l8 g1 g2 g3 g4 g5 g6 g7 g8 Fl
 have hbb := logic_b (n + 2) (by exact Bd.lw hn rfl) a0 a1 a2 a3 a4 a5 a6 a7 a8 a9 a10 σ l m f g hl hm Fl Fm
 rw [← hsame] at ha hbb
 have hc := logic_c n (Iv a0) (Iv a1) (Iv a2) (Iv a3) (Iv a4) (Iv a5) (Iv a6) (Iv a7) (Iv a8) (Iv a9) (Iv a10) (Dv (.bool (near l m))) (Dv (.bool (near l m))) (Dv (.bool (alike (pf f l) (pf g m)))) l m σ (pfv f l) (pfv g m) (pf f l) (pf g m) (alike (pf f l) (pf g m))
 have hd := logic_d n (Iv a0) (Iv a1) (Iv a2) (Iv a3) (Iv a4) (Iv a5) (Iv a6) (Iv a7) (Iv a8) (Iv a9) (Iv a10) (Dv (.bool (near l m))) (Dv (.bool (near l m))) (Dv (.bool (alike (pf f l) (pf g m)))) l m σ (pfv f l) (pfv g m) (pf f l) (pf g m) (alike (pf f l) (pf g m))
 have he := logic_e n (Iv a0) (Iv a1) (Iv a2) (Iv a3) (Iv a4) (Iv a5) (Iv a6) (Iv a7) (Iv a10) (Dv (.bool (near l m))) (Dv (.bool (near l m))) (Dv (.bool (alike (pf f l) (pf g m)))) l m σ (pfv f l) (pfv g m) (pf f l) (pf g m) (alike (pf f l) (pf g m)) a8 a9 num h b four ih jn e9 e10 l9 l10 g9 g10 Fl.ll Fm.ll hb hf hhd.1
 have hff := logic_f (n + 2) (Iv a0) (Iv a1) (Iv a2) (Iv a3) (Iv a4) (Iv a5) (Iv a6) (Iv a7) (Iv a8) (Iv a9) (Dv (.bool (near l m))) (Dv (.bool (near l m))) (Dv (.bool (alike (pf f l) (pf g m)))) l m σ (pfv f l) (pfv g m) (pf f l) (pf g m) (alike (pf f l) (pf g m)) a10 num h b four kt e11 l11 tr ht
 have hg := logic_g (n + 2) (by exact Bd.lw hn rfl) (Iv a0) (Iv a1) (Iv a2) (Iv a3) (Iv a4) (Iv a5) (Iv a6) (Iv a7) (Iv a8) (Iv a9) (Iv a10) (Dv (eLa l)) (Dv (eLa m)) (Dv (eVr (pfv f l))) (Dv (eVr (pfv g m))) (Dv (eTm (pf f l))) (Dv (eTm (pf g m))) (Dv (.bool (near l m))) (Dv (.bool (alike (pf f l) (pf g m)))) (Dv (.bool (near l m))) (Dv (.bool (alike (pf f l) (pf g m)))) (Dv (eTm (lE (pf f l) (pf g m)))) (Dv (eTm (lE (pf g m) (pf f l)))) (Dv (eTm (lE (pf f l) (pf f l)))) (Dv (eTm tSign)) (Dv (eTm tOdd)) (some (.d (oTh (if (alike (pf f l) (pf g m)) then some ⟨[lE (pf f l) (pf g m), (pf g m)], (pf g m)⟩ else none)))) (some (.d (oTh (if (alike (pf f l) (pf g m)) then some ⟨[lE (pf f l) (pf g m)], lE (pf f l) (pf g m)⟩ else none)))) (Dv (oTh (third1 (pf f l) (pf g m) h b))) (Dv (oTh four)) (some (.d (.tuple ((hyps1 (pf f l) (pf g m) (alike (pf f l) (pf g m))).map eTm)))) (Dv (eVr h)) (Iv num) (some (.d (.list ((trL (pf f l) (pf g m) (alike (pf f l) (pf g m)) h b num four).map eTr1)))) σ (steps1 (pf f l) (pf g m)) (due1 (pf f l) (pf g m) (alike (pf f l) (pf g m))) tr (by simp [steps1]) (by simp [due1, due1a, headD]) (mo_due1 Fl.pq Fm.pq _) mt ra rb
 have hall := (seq_next (b := b34b ++ (b34c ++ (b34d ++ (b34e ++ (b34f ++ b34g))))) ha).trans ((seq_next (b := b34c ++ (b34d ++ (b34e ++ (b34f ++ b34g)))) hbb).trans ((seq_next (b := b34d ++ (b34e ++ (b34f ++ b34g))) hc).trans ((seq_next (b := b34e ++ (b34f ++ b34g)) hd).trans ((seq_next (b := b34f ++ b34g) he).trans ((seq_next (b := b34g) hff).trans hg)))))
 rw [call_of (fd := f34) (fr := [Iv a0, Iv a1, Iv a2, Iv a3, Iv a4, Iv a5, Iv a6, Iv a7, Iv a8, Iv a9, Iv a10, none, none, none, none, none, none, none, none, none, none, none, none, none, none, none, none, none, none, none, none, none, none, none, none, none, none, none, none]) (body := b34a ++ (b34b ++ (b34c ++ (b34d ++ (b34e ++ (b34f ++ b34g)))))) rfl rfl (by simp only [f34, List.map_cons, List.map_nil, List.cons_append, List.nil_append, Nat.reduceSub, List.replicate]) b34_is, hall, close_d, take_self]
/-! Putting in, seen without names. -/
noncomputable def fv : Tm → Vr → Bool
 | .var x k t, y => (⟨x, k, t⟩ : Vr).eq y
 | .con _ _, _ => false
 | .app f a, y => fv f y || fv a y
 | .lam x k t b, y => !((⟨x, k, t⟩ : Vr).eq y) && fv b y
theorem Z29 : fv (.var x k t) y = ((⟨x, k, t⟩ : Vr).eq y) := rfl
theorem Z30 : fv (.con u1 u2) u3 = (false) := rfl
theorem Z31 : fv (.app f a) y = (fv f y || fv a y) := rfl
theorem Z32 : fv (.lam x k t b) y = (!((⟨x, k, t⟩ : Vr).eq y) && fv b y) := rfl
theorem memv_snoc (y w : Vr) (a : List Vr) : memv y (a ++ [w]) = (memv y a || w.eq y) := by simp [memv]
theorem Vr.eq_comm (a b : Vr) : a.eq b = b.eq a := by rw [Bool.eq_iff_iff, Vr.eq_iff, Vr.eq_iff]; exact _root_.eq_comm
theorem mem_free : ∀ (t : Tm) (y : Vr) (bd o : List Vr), memv y (freeInto t bd o) = (memv y o || (fv t y && !(memv y bd))) := by
 intro t
 induction t with
 | var x k t =>
  intro y bd o
  simp only [Z25, Z26, Z27, Z28, Z29, Z30, Z31, Z32]
  cases h : (⟨x, k, t⟩ : Vr).eq y with
  | true =>
   have e := Vr.eq_iff.mp h
   rw [e]
   cases h1 : memv y bd <;> cases h2 : memv y o <;> simp [memv_snoc, h2, Vr.eq_self]
  | false =>
   split
   ·simp
   ·rw [memv_snoc, h]; simp
 | con x t => intro y bd o; simp [Z25, Z26, Z27, Z28, Z29, Z30, Z31, Z32]
 | app f a ihf iha =>
  intro y bd o
  simp only [Z25, Z26, Z27, Z28, Z29, Z30, Z31, Z32]
  rw [iha, ihf]
  cases memv y o <;> cases fv f y <;> cases fv a y <;> simp
 | lam x k t b ih =>
  intro y bd o
  simp only [Z25, Z26, Z27, Z28, Z29, Z30, Z31, Z32]
  rw [ih, memv_snoc]
  cases memv y o <;> cases fv b y <;> cases memv y bd <;> cases (⟨x, k, t⟩ : Vr).eq y <;> rfl
theorem free_fv (t : Tm) (y : Vr) : memv y (freeV t) = fv t y := by
 unfold freeV; rw [mem_free]; simp [memv_nil]
noncomputable def upd (ρ : Vr → Nat → Db) (v : Vr) (X : Nat → Db) : Vr → Nat → Db := fun y d => if v.eq y then X d else ρ y d
noncomputable def nrm : Tm → (Vr → Nat → Db) → Nat → Db
 | .var x k t, ρ, d => ρ ⟨x, k, t⟩ d
 | .con x t, _, _ => .con x t
 | .app f a, ρ, d => .app (nrm f ρ d) (nrm a ρ d)
 | .lam x k t b, ρ, d => .lam t (nrm b (upd ρ ⟨x, k, t⟩ fun _ => .bound d) (d + 1))
theorem Z21 : nrm (.var x k t) ρ d = (ρ ⟨x, k, t⟩ d) := rfl
theorem Z22 : nrm (.con x t) u1 u2 = (.con x t) := rfl
theorem Z23 : nrm (.app f a) ρ d = (.app (nrm f ρ d) (nrm a ρ d)) := rfl
theorem Z24 : nrm (.lam x k t b) ρ d = (.lam t (nrm b (upd ρ ⟨x, k, t⟩ fun _ => .bound d) (d + 1))) := rfl
theorem lastIdx_snoc (y v : Vr) (env : List Vr) : ∀ j, j ≤ env.length → lastIdx y (env ++ [v]) j = lastIdx y env j
 | 0, _ => rfl
 | j + 1, h => by ((first | rewrite [Z106] | rewrite [Z107]); (first | rewrite [Z106] | rewrite [Z107]); rw [List.getElem?_append_left (by lia), lastIdx_snoc y v env j (by lia)])
theorem normV_snoc (y v : Vr) (env : List Vr) : normV y (env ++ [v]) = if v.eq y then .bound env.length else normV y env := by
 unfold normV
 (rewrite [List.length_append, List.length_cons, List.length_nil]; (first | rewrite [Z106] | rewrite [Z107]); rw [List.getElem?_append_right (Nat.le_refl _), Nat.sub_self])
 simp only [List.getElem?_cons_zero]
 by_cases h : v.eq y = true
 ·rw [if_pos h, if_pos h]
 ·rw [if_neg h, if_neg h, lastIdx_snoc y v env env.length (Nat.le_refl _)]
theorem norm_nrm : ∀ (t : Tm) (env : List Vr), norm t env = nrm t (fun y _ => normV y env) env.length := by
 intro t
 induction t with
 | var x k t => intro env; rfl
 | con x t => intro env; rfl
 | app f a ihf iha => intro env; ((first | rewrite [Z41] | rewrite [Z42] | rewrite [Z43] | rewrite [Z44]); (first | rewrite [Z21] | rewrite [Z22] | rewrite [Z23] | rewrite [Z24]); rw [ihf, iha])
 | lam x k t b ih =>
  intro env
  ((first | rewrite [Z41] | rewrite [Z42] | rewrite [Z43] | rewrite [Z44]); (first | rewrite [Z21] | rewrite [Z22] | rewrite [Z23] | rewrite [Z24]); rw [ih])
  congr 1
  rw [show (env ++ [(⟨x, k, t⟩ : Vr)]).length = env.length + 1 by simp]
  congr 1
  funext y d
  rw [normV_snoc]; rfl
theorem nrm_congr : ∀ (t : Tm) (ρ ρ' : Vr → Nat → Db) (d : Nat), (∀ y d', fv t y = true → ρ y d' = ρ' y d') → nrm t ρ d = nrm t ρ' d := by
 intro t
 induction t with
 | var x k t => intro ρ ρ' d h; exact h _ d (Vr.eq_self _)
 | con x t => intro ρ ρ' d h; rfl
 | app f a ihf iha =>
  intro ρ ρ' d h
  ((first | rewrite [Z21] | rewrite [Z22] | rewrite [Z23] | rewrite [Z24]); (first | rewrite [Z21] | rewrite [Z22] | rewrite [Z23] | rewrite [Z24]); rw [ihf ρ ρ' d (fun y d' hy => h y d' (by simp [Z29, Z30, Z31, Z32, hy])), iha ρ ρ' d (fun y d' hy => h y d' (by simp [Z29, Z30, Z31, Z32, hy]))])
 | lam x k t b ih =>
  intro ρ ρ' d h
  ((first | rewrite [Z21] | rewrite [Z22] | rewrite [Z23] | rewrite [Z24]); (first | rewrite [Z21] | rewrite [Z22] | rewrite [Z23] | rewrite [Z24]); rw [ih _ (upd ρ' ⟨x, k, t⟩ fun _ => .bound d) (d + 1) (fun y d' hy => ?_)])
  unfold upd
  cases hv : (⟨x, k, t⟩ : Vr).eq y with
  | true => rfl
  | false => simp only [Bool.false_eq_true, if_false]; exact h y d' (by simp [Z29, Z30, Z31, Z32, hy, hv])
noncomputable def sub (ρ : Vr → Nat → Db) (ps : List Pr) : Vr → Nat → Db := fun y d => match lookP y ps with
 | some s => nrm s ρ d
 | none => ρ y d
theorem sub_nil (ρ : Vr → Nat → Db) : sub ρ [] = ρ := rfl
noncomputable def newK (v : Vr) (b : Tm) (ps : List Pr) : Nat := if caughtBy v (innerOf v (freeV b) ps) then freshK (namesOf (freeV b) (innerOf v (freeV b) ps)) v.x 900 v.k else v.k
noncomputable def innR (v : Vr) (b : Tm) (ps : List Pr) : List Pr := if caughtBy v (innerOf v (freeV b) ps) then innerOf v (freeV b) ps ++ [(v, .var v.x (newK v b ps) v.t)] else innerOf v (freeV b) ps
theorem put_lam (x : Bs) (k : Nat) (t : Ty) (b : Tm) (ps : List Pr) : put (.lam x k t b) ps = .lam x (newK ⟨x, k, t⟩ b ps) t (put b (innR ⟨x, k, t⟩ b ps)) := by
 cases ps with
 | nil =>
  rw [put_nil]
  have h : innerOf ⟨x, k, t⟩ (freeV b) [] = [] := rfl
  simp only [newK, innR, h, caughtBy, List.any_nil, Bool.false_eq_true, if_false, put_nil]
 | cons p ps =>
  (first | rw [Z33] | rw [Z34] | rw [Z35] | rw [Z36])
  simp only [List.isEmpty_cons, Bool.false_eq_true, if_false, newK, innR]
  split <;> rfl
theorem lookP_inner {y v : Vr} {here : List Vr} (hv : v.eq y = false) (hh : memv y here = true) : ∀ ps : List Pr, lookP y (innerOf v here ps) = lookP y ps
 | [] => rfl
 | (w, s) :: r => by
  have ih := lookP_inner hv hh r
  unfold innerOf at ih ⊢
  (rewrite [List.filter_cons]; (first | rw [Z93] | rw [Z94]))
  cases hw : w.eq y with
  | true =>
   have e := Vr.eq_iff.mp hw
   subst e
   (rewrite [if_pos (by rw [Vr.eq_comm, hv, hh]; rfl)]; (first | rewrite [Z93] | rewrite [Z94]); rw [hw, if_pos rfl, if_pos rfl])
  | false =>
   simp only [Bool.false_eq_true, if_false]
   split
   ·((first | rewrite [Z93] | rewrite [Z94]); rw [hw]); exact ih
   ·exact ih
theorem lookP_inner_v (v : Vr) (here : List Vr) : ∀ ps : List Pr, lookP v (innerOf v here ps) = none
 | [] => rfl
 | (w, s) :: r => by
  have ih := lookP_inner_v v here r
  unfold innerOf at ih ⊢
  rw [List.filter_cons]
  split
  ·rename_i h
   rw [Bool.and_eq_true, Bool.not_eq_true'] at h
   ((first | rewrite [Z93] | rewrite [Z94]); rw [h.1]); exact ih
  ·exact ih
theorem lookP_append (y : Vr) : ∀ a b : List Pr, lookP y (a ++ b) = (lookP y a).or (lookP y b)
 | [], b => rfl
 | (w, s) :: r, b => by (rewrite [List.cons_append]; (first | rewrite [Z93] | rewrite [Z94]); (first | rw [Z93] | rw [Z94])); cases w.eq y <;> simp [lookP_append y r b]
theorem lookP_mem {y : Vr} : ∀ {ps : List Pr} {s : Tm}, lookP y ps = some s → ∃ p ∈ ps, p.2 = s ∧ p.1 = y
 | [], s, h => by cases h
 | (w, u) :: r, s, h => by
  (first | rw [Z93] at h | rw [Z94] at h)
  cases hw : w.eq y with
  | true => rw [hw, if_pos rfl] at h; cases h; exact ⟨(w, u), List.mem_cons_self, rfl, Vr.eq_iff.mp hw⟩
  | false =>
   rw [hw] at h
   obtain ⟨p, hp, e⟩ := lookP_mem (by simpa using h)
   exact ⟨p, List.mem_cons_of_mem _ hp, e⟩
theorem fresh_is (names : List Nx) (x : Bs) : ∀ f k, (∃ j, j < f ∧ memn x (k + j) names = false) → memn x (freshK names x f k) names = false
 | 0, k, h => by obtain ⟨j, hj, _⟩ := h; lia
 | f + 1, k, h => by
  (first | rw [Z83] | rw [Z84])
  cases hm : memn x k names with
  | false => simpa using hm
  | true =>
   rw [if_pos rfl]
   refine fresh_is names x f (k + 1) ?_
   obtain ⟨j, hj, hq⟩ := h
   cases j with
   | zero => rw [Nat.add_zero, hm] at hq; cases hq
   | succ j => exact ⟨j, by lia, by rw [show k + 1 + j = k + (j + 1) by lia]; exact hq⟩
theorem memn_of_memv {y : Vr} {l : List Vr} (h : memv y l = true) : memn y.x y.k (l.map nxOf) = true := by
 unfold memv at h
 rw [List.any_eq_true] at h
 obtain ⟨w, hw, e⟩ := h
 have := Vr.eq_iff.mp e
 subst this
 unfold memn
 rw [List.any_eq_true]
 exact ⟨nxOf w, List.mem_map_of_mem hw, by simp [nxOf, Bs.same_self]⟩
theorem memn_append (x : Bs) (k : Nat) (a b : List Nx) : memn x k (a ++ b) = (memn x k a || memn x k b) := by simp [memn]
theorem new_safe (v : Vr) (b : Tm) (ps : List Pr) (M : Nat) (hb : b.pk ≤ M) (hv : v.k ≤ M) (hp : ∀ p ∈ ps, p.2.pk ≤ M) (hM : M ≤ 800) :
  (∀ y, fv b y = true → v.eq y = false → (⟨v.x, newK v b ps, v.t⟩ : Vr).eq y = false) ∧ (∀ p ∈ innerOf v (freeV b) ps, fv p.2 ⟨v.x, newK v b ps, v.t⟩ = false) := by
 unfold newK
 cases hc : caughtBy v (innerOf v (freeV b) ps) with
 | false =>
  simp only [Bool.false_eq_true, if_false]
  refine ⟨fun y _ h => h, fun p hp => ?_⟩
  unfold caughtBy at hc
  rw [List.any_eq_false] at hc
  have := hc p hp
  rw [free_fv] at this
  simpa using this
 | true =>
  simp only [if_true]
  have hpk := names_pk (here := freeV b) (inner := innerOf v (freeV b) ps) (M := M) (free_pk b [] [] M hb (fun v h => by cases h)) (fun p h => hp p (inner_sub h))
  have hf : memn v.x (freshK (namesOf (freeV b) (innerOf v (freeV b) ps)) v.x 900 v.k) (namesOf (freeV b) (innerOf v (freeV b) ps)) = false :=
   fresh_is _ _ 900 v.k ⟨M + 1 - v.k, by exact Bd.ms0 hM, memn_big hpk (by lia)⟩
  generalize freshK (namesOf (freeV b) (innerOf v (freeV b) ps)) v.x 900 v.k = k' at hf
  unfold namesOf at hf
  rw [memn_append, Bool.or_eq_false_iff] at hf
  refine ⟨fun y hy _ => ?_, fun p hp => ?_⟩
  ·cases he : (⟨v.x, k', v.t⟩ : Vr).eq y with
   | false => rfl
   | true =>
    have e := Vr.eq_iff.mp he
    subst e
    have := memn_of_memv (y := ⟨v.x, k', v.t⟩) (l := freeV b) (by rw [free_fv]; exact hy)
    rw [hf.1] at this; cases this
  ·cases he : fv p.2 ⟨v.x, k', v.t⟩ with
   | false => rfl
   | true =>
    have h1 := memn_of_memv (y := ⟨v.x, k', v.t⟩) (l := freeV p.2) (by rw [free_fv]; exact he)
    have h2 := hf.2
    unfold memn at h1 h2
    rw [List.any_eq_false] at h2
    rw [List.any_eq_true] at h1
    obtain ⟨n, hn, e⟩ := h1
    exact absurd e (h2 n (List.mem_flatMap.mpr ⟨p, hp, hn⟩))
theorem sub_agree (ρ : Vr → Nat → Db) (v : Vr) (b : Tm) (ps : List Pr) (X : Nat → Db) (M : Nat) (hb : b.pk ≤ M) (hv : v.k ≤ M) (hp : ∀ p ∈ ps, p.2.pk ≤ M) (hM : M ≤ 800) (y : Vr) (d : Nat) (hy : fv b y = true) :
  sub (upd ρ ⟨v.x, newK v b ps, v.t⟩ X) (innR v b ps) y d = upd (sub ρ ps) v X y d := by
 obtain ⟨s1, s2⟩ := new_safe v b ps M hb hv hp hM
 have hh : memv y (freeV b) = true := by rw [free_fv]; exact hy
 cases he : v.eq y with
 | true =>
  have e := Vr.eq_iff.mp he
  subst e
  unfold sub upd innR
  cases hc : caughtBy v (innerOf v (freeV b) ps) with
  | true =>
   simp only [if_true, lookP_append, lookP_inner_v, Option.none_or, Z93, Z94, Vr.eq_self, Z21, Z22, Z23, Z24]
  | false =>
   simp only [Bool.false_eq_true, if_false, lookP_inner_v, Vr.eq_self, if_true]
   have : newK v b ps = v.k := by unfold newK; rw [hc]; rfl
   rw [this]; simp [Vr.eq_self]
 | false =>
  have hl : lookP y (innR v b ps) = lookP y ps := by
   unfold innR
   split
   ·rw [lookP_append, lookP_inner he hh]
    simp only [Z93, Z94, he, Bool.false_eq_true, if_false, Option.or_none]
   ·exact lookP_inner he hh ps
  unfold sub
  rw [hl]
  simp only [upd, he, Bool.false_eq_true, if_false]
  have hin := lookP_inner he hh ps
  cases hq : lookP y ps with
  | none => simp only [upd, s1 y hy he, Bool.false_eq_true, if_false]
  | some s =>
   simp only
   rw [hq] at hin
   obtain ⟨p, hpm, e, _⟩ := lookP_mem hin
   subst e
   refine nrm_congr _ _ _ _ fun z d' hz => ?_
   unfold upd
   have := s2 p hpm
   split
   ·rename_i h
    rw [Vr.eq_iff.mp h, hz] at this; cases this
   ·rfl
theorem newK_le (v : Vr) (b : Tm) (ps : List Pr) (M : Nat) (hb : b.pk ≤ M) (hv : v.k ≤ M) (hp : ∀ p ∈ ps, p.2.pk ≤ M) : newK v b ps ≤ M + 1 := by
 unfold newK
 split
 ·exact freshK_le _ _ M (names_pk (free_pk b [] [] M hb (fun v h => by cases h)) (fun p h => hp p (inner_sub h))) 900 v.k (by lia)
 ·lia
theorem innR_mem {v : Vr} {b : Tm} {ps : List Pr} {p : Pr} (h : p ∈ innR v b ps) : p ∈ ps ∨ p = (v, .var v.x (newK v b ps) v.t) := by
 unfold innR at h
 split at h
 ·rcases List.mem_append.mp h with q | q
  ·exact .inl (inner_sub q)
  ·simp at q; exact .inr q
 ·exact .inl (inner_sub h)
theorem innR_pk (v : Vr) (b : Tm) (ps : List Pr) (M : Nat) (hb : b.pk ≤ M) (hv : v.k ≤ M) (hp : ∀ p ∈ ps, p.2.pk ≤ M) : ∀ p ∈ innR v b ps, p.2.pk ≤ M + 1 := by
 intro p h
 rcases innR_mem h with q | rfl
 ·have := hp p q; lia
 ·exact newK_le v b ps M hb hv hp
theorem nrm_put : ∀ (t : Tm) (ps : List Pr) (ρ : Vr → Nat → Db) (d M : Nat), t.pk ≤ M → (∀ p ∈ ps, p.2.pk ≤ M) → M + t.dp ≤ 800 → nrm (put t ps) ρ d = nrm t (sub ρ ps) d := by
 intro t
 induction t with
 | var x k t =>
  intro ps ρ d M _ _ _
  ((first | rewrite [Z33] | rewrite [Z34] | rewrite [Z35] | rewrite [Z36]); (first | rewrite [Z21] | rewrite [Z22] | rewrite [Z23] | rewrite [Z24]); rw [sub])
  cases lookP ⟨x, k, t⟩ ps <;> rfl
 | con x t => intro ps ρ d M _ _ _; rfl
 | app f a ihf iha =>
  intro ps ρ d M h1 h2 h3
  simp only [Z122, Z123, Z124, Z125, Z114, Z115, Z116, Z117] at h1 h3
  (first | rw [Z33] | rw [Z34] | rw [Z35] | rw [Z36])
  cases ps with
  | nil => rw [sub_nil]; rfl
  | cons p ps =>
   simp only [List.isEmpty_cons, Bool.false_eq_true, if_false, Z21, Z22, Z23, Z24]
   rw [ihf _ ρ d M (by exact Bd.l1 h1) h2 (by exact Bd.s1 h3), iha _ ρ d M (by exact Bd.l2 h1) h2 (by exact Bd.s2 h3)]
 | lam x k t b ih =>
  intro ps ρ d M h1 h2 h3
  simp only [Z122, Z123, Z124, Z125, Z114, Z115, Z116, Z117] at h1 h3
  (rewrite [put_lam]; (first | rewrite [Z21] | rewrite [Z22] | rewrite [Z23] | rewrite [Z24]); (first | rewrite [Z21] | rewrite [Z22] | rewrite [Z23] | rewrite [Z24]); rw [ih _ _ _ (M + 1) (by exact Bd.n2 h1) (innR_pk ⟨x, k, t⟩ b ps M (by exact Bd.l2 h1) (by show k ≤ M; exact Bd.l1 h1) h2) (by exact Bd.s3 h3)])
  congr 1
  exact nrm_congr _ _ _ _ fun y d' hy => sub_agree ρ ⟨x, k, t⟩ b ps _ M (by exact Bd.l2 h1) (by show k ≤ M; exact Bd.l1 h1) h2 (by lia) y d' hy
theorem fits_is {p : Pr} (h : fitsP p = true) : typeOf p.2 = some p.1.t := by
 unfold fitsP at h
 cases ht : typeOf p.2 with
 | none => rw [ht] at h; cases h
 | some ty => rw [ht] at h; rw [Ty.eq_iff.mp h]
theorem type_put : ∀ (t : Tm) (ps : List Pr), (∀ p ∈ ps, typeOf p.2 = some p.1.t) → typeOf (put t ps) = typeOf t := by
 intro t
 induction t with
 | var x k t =>
  intro ps h
  (first | rw [Z33] | rw [Z34] | rw [Z35] | rw [Z36])
  cases hl : lookP ⟨x, k, t⟩ ps with
  | none => rfl
  | some s =>
   obtain ⟨p, hp, e, e2⟩ := lookP_mem hl
   have := h p hp
   rw [e, e2] at this
   rw [Option.getD_some, this]; rfl
 | con x t => intro ps h; rfl
 | app f a ihf iha =>
  intro ps h
  (first | rw [Z33] | rw [Z34] | rw [Z35] | rw [Z36])
  cases ps with
  | nil => rfl
  | cons p ps => simp only [List.isEmpty_cons, Bool.false_eq_true, if_false, Z73, Z74, Z75, Z76, ihf _ h, iha _ h]
 | lam x k t b ih =>
  intro ps h
  (rewrite [put_lam]; (first | rewrite [Z73] | rewrite [Z74] | rewrite [Z75] | rewrite [Z76]); (first | rewrite [Z73] | rewrite [Z74] | rewrite [Z75] | rewrite [Z76]); rw [ih])
  intro p hp
  rcases innR_mem hp with q | rfl
  ·exact h p q
  ·rfl
theorem ck_put (cs : Cs2) : ∀ (t : Tm) (ps : List Pr), ckCons cs t = true → (∀ p ∈ ps, ckCons cs p.2 = true) → ckCons cs (put t ps) = true := by
 intro t
 induction t with
 | var x k t =>
  intro ps _ h
  (first | rw [Z33] | rw [Z34] | rw [Z35] | rw [Z36])
  cases hl : lookP ⟨x, k, t⟩ ps with
  | none => rfl
  | some s =>
   obtain ⟨p, hp, e, e2⟩ := lookP_mem hl
   have := h p hp
   rw [e] at this
   exact this
 | con x t => intro ps h1 h; exact h1
 | app f a ihf iha =>
  intro ps h1 h
  simp only [Z55, Z56, Z57, Z58, Bool.and_eq_true] at h1
  (first | rw [Z33] | rw [Z34] | rw [Z35] | rw [Z36])
  split
  ·simp [Z55, Z56, Z57, Z58, h1]
  ·simp [Z55, Z56, Z57, Z58, ihf _ h1.1 h, iha _ h1.2 h]
 | lam x k t b ih =>
  intro ps h1 h
  simp only [Z55, Z56, Z57, Z58] at h1
  (rewrite [put_lam]; (first | rw [Z55] | rw [Z56] | rw [Z57] | rw [Z58]))
  refine ih _ h1 fun p hp => ?_
  rcases innR_mem hp with q | rfl
  ·exact h p q
  ·rfl
theorem sz_put (S : Nat) (hS : 1 ≤ S) : ∀ (t : Tm) (ps : List Pr), (∀ p ∈ ps, p.2.sz ≤ S) → (put t ps).sz ≤ t.sz * S := by
 intro t
 induction t with
 | var x k t =>
  intro ps h
  (first | rw [Z33] | rw [Z34] | rw [Z35] | rw [Z36])
  cases hl : lookP ⟨x, k, t⟩ ps with
  | none => simp [Z130, Z131, Z132, Z133]; exact hS
  | some s =>
   obtain ⟨p, hp, e, e2⟩ := lookP_mem hl
   have := h p hp
   rw [e] at this
   simp [Z130, Z131, Z132, Z133]; exact this
 | con x t => intro ps h; simp [Z33, Z34, Z35, Z36, Z130, Z131, Z132, Z133]
 | app f a ihf iha =>
  intro ps h
  (first | rw [Z33] | rw [Z34] | rw [Z35] | rw [Z36])
  split
  ·simp only [Z130, Z131, Z132, Z133]; exact Nat.le_mul_of_pos_right _ (by lia)
  ·simp only [Z130, Z131, Z132, Z133, Nat.add_mul]; have := ihf ps h; have := iha ps h; with_reducible exact Bd.aa ‹_› this
 | lam x k t b ih =>
  intro ps h
  rw [put_lam]
  simp only [Z130, Z131, Z132, Z133]
  refine ih _ fun p hp => ?_
  rcases innR_mem hp with q | rfl
  ·exact h p q
  ·simp [Z130, Z131, Z132, Z133]; exact hS
theorem vs_put (S : Nat) (hS : 1 ≤ S) : ∀ (t : Tm) (ps : List Pr), (∀ p ∈ ps, p.2.vs ≤ S) → (put t ps).vs ≤ t.vs * S := by
 intro t
 induction t with
 | var x k t =>
  intro ps h
  (first | rw [Z33] | rw [Z34] | rw [Z35] | rw [Z36])
  cases hl : lookP ⟨x, k, t⟩ ps with
  | none => simp [Z126, Z127, Z128, Z129]; exact hS
  | some s =>
   obtain ⟨p, hp, e, e2⟩ := lookP_mem hl
   have := h p hp
   rw [e] at this
   simp [Z126, Z127, Z128, Z129]; exact this
 | con x t => intro ps h; simp [Z33, Z34, Z35, Z36, Z126, Z127, Z128, Z129]
 | app f a ihf iha =>
  intro ps h
  (first | rw [Z33] | rw [Z34] | rw [Z35] | rw [Z36])
  split
  ·simp only [Z126, Z127, Z128, Z129]; exact Nat.le_mul_of_pos_right _ (by lia)
  ·simp only [Z126, Z127, Z128, Z129, Nat.add_mul]; have := ihf ps h; have := iha ps h; with_reducible exact Bd.aa ‹_› this
 | lam x k t b ih =>
  intro ps h
  rw [put_lam]
  simp only [Z126, Z127, Z128, Z129, Nat.add_mul]
  have : (put b (innR ⟨x, k, t⟩ b ps)).vs ≤ b.vs * S := ih _ fun p hp => by
   rcases innR_mem hp with q | rfl
   ·exact h p q
   ·simp [Z126, Z127, Z128, Z129]; exact hS
  lia
theorem pk_put : ∀ (t : Tm) (ps : List Pr) (M : Nat), t.pk ≤ M → (∀ p ∈ ps, p.2.pk ≤ M) → (put t ps).pk ≤ M + t.dp := by
 intro t
 induction t with
 | var x k t =>
  intro ps M h1 h
  (first | rw [Z33] | rw [Z34] | rw [Z35] | rw [Z36])
  cases hl : lookP ⟨x, k, t⟩ ps with
  | none => simp only [Option.getD_none]; lia
  | some s =>
   obtain ⟨p, hp, e, e2⟩ := lookP_mem hl
   have := h p hp
   rw [e] at this
   simp only [Option.getD_some]; lia
 | con x t => intro ps M h1 h; simp [Z33, Z34, Z35, Z36, Z122, Z123, Z124, Z125]
 | app f a ihf iha =>
  intro ps M h1 h
  simp only [Z122, Z123, Z124, Z125] at h1
  (first | rw [Z33] | rw [Z34] | rw [Z35] | rw [Z36])
  split
  ·simp only [Z122, Z123, Z124, Z125, Z114, Z115, Z116, Z117]; (apply Bd.mx <;> (first | exact Bd.la2 h1 | exact Bd.la1 h1))
  ·have := ihf ps M (by exact Bd.l1 h1) h
   have := iha ps M (by exact Bd.l2 h1) h
   simp only [Z122, Z123, Z124, Z125, Z114, Z115, Z116, Z117]; with_reducible exact Bd.pm ‹_› this
 | lam x k t b ih =>
  intro ps M h1 h
  simp only [Z122, Z123, Z124, Z125] at h1
  rw [put_lam]
  have := ih _ (M + 1) (by exact Bd.n2 h1) (innR_pk ⟨x, k, t⟩ b ps M (by exact Bd.l2 h1) (by show k ≤ M; exact Bd.l1 h1) h)
  have := newK_le ⟨x, k, t⟩ b ps M (by exact Bd.l2 h1) (by show k ≤ M; exact Bd.l1 h1) h
  simp only [Z122, Z123, Z124, Z125, Z114, Z115, Z116, Z117]; (apply Bd.mx <;> (first | with_reducible exact Bd.pa ‹_› | lia))
theorem put_own (x : Bs) (k : Nat) (t : Ty) (b s : Tm) : put (.lam x k t b) [(⟨x, k, t⟩, s)] = .lam x k t b := by
 rw [put_lam]
 have h : innerOf ⟨x, k, t⟩ (freeV b) [(⟨x, k, t⟩, s)] = [] := by simp [innerOf, Vr.eq_self]
 simp only [newK, innR, h, caughtBy, List.any_nil, Bool.false_eq_true, if_false, put_nil]
theorem alike_putting (v w : Vr) (s t L : Tm) (M : Nat) (hvw : v.eq w = false) (hL : L.pk ≤ M) (hw : w.k ≤ M) (hs : s.pk ≤ M) (ht : t.pk ≤ M) (hM : M ≤ 100) (hsd : s.dp ≤ 100) (hLd : L.dp ≤ 100) (hwd : w.t.dp ≤ 100) :
  alike (put (put L (innR w L [(v, s)])) [(⟨w.x, newK w L [(v, s)], w.t⟩, t)]) (put L [(v, s), (w, t)]) = true := by
 unfold alike
 rw [Db.eq_iff, norm_nrm, norm_nrm]
 generalize (fun (y : Vr) (_ : Nat) => normV y []) = ρ
 have hp1 : ∀ p ∈ [(v, s)], p.2.pk ≤ M := fun p hp => by simp at hp; subst hp; exact hs
 have hp2 : ∀ p ∈ [(v, s), (w, t)], p.2.pk ≤ M := fun p hp => by simp at hp; rcases hp with rfl | rfl <;> assumption
 have hI := innR_pk w L [(v, s)] M hL hw hp1
 have h1 := pk_put L (innR w L [(v, s)]) (M + 1) (by lia) hI
 have h2 := put_dp 100 L (innR w L [(v, s)]) hLd fun p hp => by
  rcases innR_mem hp with q | rfl
  ·simp at q; subst q; exact hsd
  ·exact hwd
 rw [nrm_put _ _ ρ _ (M + 1 + L.dp) h1 (fun p hp => by simp at hp; subst hp; show t.pk ≤ _; lia) (by lia)]
 have e : sub ρ [(⟨w.x, newK w L [(v, s)], w.t⟩, t)] = upd ρ ⟨w.x, newK w L [(v, s)], w.t⟩ fun d => nrm t ρ d := by
  funext y d
  unfold sub upd
  simp only [Z93, Z94]
  by_cases h : (⟨w.x, newK w L [(v, s)], w.t⟩ : Vr).eq y = true
  ·simp only [h, if_true]
  ·simp only [h, Bool.false_eq_true, if_false]
 rw [e, nrm_put _ _ _ _ (M + 1) (by lia) hI (by lia), nrm_put _ _ _ _ M hL hp2 (by exact Bd.sm hM hLd rfl)]
 refine nrm_congr _ _ _ _ fun y d' hy => ?_
 rw [sub_agree ρ w L [(v, s)] _ M hL hw hp1 (by exact Bd.wk hM rfl) y d' hy]
 unfold upd sub
 simp only [Z93, Z94]
 by_cases h : w.eq y = true
 ·have e := Vr.eq_iff.mp h
  subst e
  simp only [Vr.eq_self, if_true, hvw, Bool.false_eq_true, if_false]
 ·by_cases h3 : v.eq y = true
  ·simp only [h3, if_true, h, Bool.false_eq_true, if_false]
  ·simp only [h3, h, Bool.false_eq_true, if_false]
structure Dm (t : Tm) (n m : Nat) : Prop where
 dp : t.dp ≤ n
 sz : t.sz ≤ m
 vs : t.vs ≤ m
 pk : t.pk ≤ n
structure P0 (v w : Vr) (s t L : Tm) : Prop where
 tv : v.t = .bool
 tw : w.t = .bool
 ts : typeOf s = some .bool
 tt : typeOf t = some .bool
 tL : typeOf L = some bb
 cs : ckCons headC s = true
 ct : ckCons headC t = true
 cL : ckCons headC L = true
 ds : Dm s 6 4
 dt : Dm t 5 2
 dL : Dm L 7 5
 kv : v.k ≤ 2
 kw : w.k ≤ 2
 vw : v.eq w = false
noncomputable abbrev lamV (v : Vr) (b : Tm) : Tm := .lam v.x v.k v.t b
noncomputable def hvr (v w : Vr) (s L : Tm) : Vr := ⟨w.x, newK w L [(v, s)], w.t⟩
noncomputable def hbd (v w : Vr) (s L : Tm) : Tm := put L (innR w L [(v, s)])
noncomputable def halfT (v w : Vr) (s L : Tm) : Tm := lamV (hvr v w s L) (hbd v w s L)
noncomputable def endT (v w : Vr) (s t L : Tm) : Tm := put (hbd v w s L) [(hvr v w s L, t)]
theorem half_is (v w : Vr) (s L : Tm) : put (lamV w L) [(v, s)] = halfT v w s L := put_lam ..
noncomputable def onceT (v w : Vr) (s L : Tm) : Tm := .app (lamV v (lamV w L)) s
noncomputable def fullT (v w : Vr) (s t L : Tm) : Tm := .app (onceT v w s L) t
noncomputable def steps0 (v w : Vr) (s t L : Tm) : List Stp := [.beta v (lamV w L), .inst [(v, s)] 2, .refl t, .two .comb 3 4, .beta (hvr v w s L) (hbd v w s L), .inst [(hvr v w s L, t)] 6, .two .trans 5 7]
noncomputable def rows0 (v w : Vr) (s t L : Tm) : List Tm := [eqT bbb (.app (lamV v (lamV w L)) v.tm) (lamV w L), eqT bbb (onceT v w s L) (halfT v w s L), eqT .bool t t, eqT bb (fullT v w s t L) (.app (halfT v w s L) t), eqT bb (.app (halfT v w s L) (hvr v w s L).tm) (hbd v w s L), eqT bb (.app (halfT v w s L) t) (endT v w s t L), eqT bb (fullT v w s t L) (endT v w s t L)]
noncomputable def due0 (v w : Vr) (s t L : Tm) : List Th := headD ++ (rows0 v w s t L).map fun r => ⟨[], r⟩
theorem step_beta {made : List Th} {cs : Cs2} {v : Vr} {t : Tm} {s : Ty} (h : checked cs t = some s) (ht : typeOf t = some s) : runStep (made, cs) (.beta v t) = some (made ++ [⟨[], eqT s (.app (lamV v t) v.tm) t⟩], cs) := by
 have : typeOf (.app (.lam v.x v.k v.t t) (.var v.x v.k v.t)) = some s := by simp [Z73, Z74, Z75, Z76, ht, Ty.eq_self]
 simp [runStep, stepL, oneTerm, h, this, keepC, Vr.tm]
theorem put_app (f a : Tm) (p : Pr) (ps : List Pr) : put (.app f a) (p :: ps) = .app (put f (p :: ps)) (put a (p :: ps)) := by (first | rw [Z33] | rw [Z34] | rw [Z35] | rw [Z36]); rfl
theorem put_con (x : Cn) (t : Ty) (ps : List Pr) : put (.con x t) ps = .con x t := by (first | rw [Z33] | rw [Z34] | rw [Z35] | rw [Z36])
theorem put_eqT (s : Ty) (a b : Tm) (p : Pr) (ps : List Pr) : put (eqT s a b) (p :: ps) = eqT s (put a (p :: ps)) (put b (p :: ps)) := by
 unfold eqT; rw [put_app, put_app, put_con]
theorem put_self (v : Vr) (s : Tm) : put v.tm [(v, s)] = s := by
 show put (.var v.x v.k v.t) _ = s
 ((first | rewrite [Z33] | rewrite [Z34] | rewrite [Z35] | rewrite [Z36]); (first | rewrite [Z93] | rewrite [Z94]); rw [if_pos (Vr.eq_self _)]); rfl
theorem checked_of {t : Tm} {s : Ty} (h : typeOf t = some s) (hc : ckCons headC t = true) : checked headC t = some s := by unfold checked; rw [hc, if_pos rfl, h]
theorem instTh_0 {ps : List Pr} {c c' : Tm} (h1 : ∀ p ∈ ps, typeOf p.2 = some p.1.t ∧ ckCons headC p.2 = true) (h2 : put c ps = c') : instTh headC ps ⟨[], c⟩ = some ⟨[], c'⟩ := by
 have e1 : ps.all (fun p => (checked headC p.2).isSome) = true := List.all_eq_true.mpr fun p hp => by rw [checked_of (h1 p hp).1 (h1 p hp).2]; rfl
 have e2 : ps.all fitsP = true := List.all_eq_true.mpr fun p hp => by unfold fitsP; rw [(h1 p hp).1]; exact Ty.eq_self _
 simp only [instTh, e1, if_true, Z67, Z68, putIn, e2, h2, Option.bind_some, Option.map_some]; rfl
section
variable {v w : Vr} {s t L : Tm} (P : P0 v w s t L)
include P
theorem P0.pair : ∀ p ∈ [(v, s)], typeOf p.2 = some p.1.t ∧ ckCons headC p.2 = true := fun p hp => by simp at hp; subst hp; exact ⟨by rw [P.ts, P.tv], P.cs⟩
theorem P0.inn : ∀ p ∈ innR w L [(v, s)], typeOf p.2 = some p.1.t ∧ ckCons headC p.2 = true ∧ p.2.dp ≤ 7 ∧ p.2.sz ≤ 4 ∧ p.2.vs ≤ 4 ∧ p.2.pk ≤ 8 := fun p hp => by
 have hd := P.ds
 rcases innR_mem hp with q | rfl
 ·simp at q; subst q
  exact ⟨by rw [P.ts, P.tv], P.cs, by have := hd.dp; show s.dp ≤ 7; exact Bd.wk this rfl, hd.sz, hd.vs, by have := hd.pk; show s.pk ≤ 8; exact Bd.wk this rfl⟩
 ·have := newK_le w L [(v, s)] 7 (P.dL.pk) (by have := P.kw; exact Bd.wk this rfl) (fun p hp => by simp at hp; subst hp; have := hd.pk; show s.pk ≤ 7; exact Bd.wk this rfl)
  refine ⟨rfl, rfl, ?_, ?_, ?_, this⟩ <;> simp [Z114, Z115, Z116, Z117, Z130, Z131, Z132, Z133, Z126, Z127, Z128, Z129, P.tw, Z150, Z151, Z152, Z153]
theorem P0.hbTy : typeOf (hbd v w s L) = some bb := by unfold hbd; rw [type_put _ _ fun p hp => (P.inn p hp).1, P.tL]
theorem P0.hbCk : ckCons headC (hbd v w s L) = true := ck_put _ _ _ P.cL fun p hp => (P.inn p hp).2.1
theorem P0.hbDm : (hbd v w s L).dp ≤ 14 ∧ (hbd v w s L).sz ≤ 20 ∧ (hbd v w s L).vs ≤ 20 ∧ (hbd v w s L).pk ≤ 15 := by
 have d := P.dL
 have h1 := put_dp 7 L (innR w L [(v, s)]) d.dp fun p hp => (P.inn p hp).2.2.1
 have h2 := sz_put 4 (by decide) L (innR w L [(v, s)]) fun p hp => (P.inn p hp).2.2.2.1
 have h3 := vs_put 4 (by decide) L (innR w L [(v, s)]) fun p hp => (P.inn p hp).2.2.2.2.1
 have h4 := pk_put L (innR w L [(v, s)]) 8 (by have := d.pk; exact Bd.wk this rfl) fun p hp => (P.inn p hp).2.2.2.2.2
 have := d.dp; have := d.sz; have := d.vs
 exact ⟨by show (put L _).dp ≤ 14; with_reducible exact Bd.t1 h1 ‹_› rfl, by show (put L _).sz ≤ 20; lia, by show (put L _).vs ≤ 20; lia, by show (put L _).pk ≤ 15; lia⟩
theorem P0.hk : (hvr v w s L).k ≤ 8 := newK_le w L [(v, s)] 7 (P.dL.pk) (by have := P.kw; exact Bd.wk this rfl) (fun p hp => by simp at hp; subst hp; have := P.ds.pk; show s.pk ≤ 7; exact Bd.wk this rfl)
theorem P0.ht : (hvr v w s L).t = .bool := P.tw
theorem P0.pair2 : ∀ p ∈ [(hvr v w s L, t)], typeOf p.2 = some p.1.t ∧ ckCons headC p.2 = true := fun p hp => by simp at hp; subst hp; exact ⟨by rw [P.tt, P.ht], P.ct⟩
theorem P0.enDm : (endT v w s t L).dp ≤ 28 ∧ (endT v w s t L).sz ≤ 40 ∧ (endT v w s t L).vs ≤ 40 ∧ (endT v w s t L).pk ≤ 29 := by
 obtain ⟨d1, d2, d3, d4⟩ := P.hbDm
 have d := P.dt
 have h1 := put_dp 14 (hbd v w s L) [(hvr v w s L, t)] d1 fun p hp => by simp at hp; subst hp; have := d.dp; show t.dp ≤ 14; exact Bd.wk this rfl
 have h2 := sz_put 2 (by decide) (hbd v w s L) [(hvr v w s L, t)] fun p hp => by simp at hp; subst hp; exact d.sz
 have h3 := vs_put 2 (by decide) (hbd v w s L) [(hvr v w s L, t)] fun p hp => by simp at hp; subst hp; exact d.vs
 have h4 := pk_put (hbd v w s L) [(hvr v w s L, t)] 15 d4 fun p hp => by simp at hp; subst hp; have := d.pk; show t.pk ≤ 15; exact Bd.wk this rfl
 exact ⟨by show (put _ _).dp ≤ 28; exact Bd.t1 h1 d1 rfl, by show (put _ _).sz ≤ 40; lia, by show (put _ _).vs ≤ 40; lia, by show (put _ _).pk ≤ 29; lia⟩
end
section
variable {v w : Vr} {s t L : Tm} (P : P0 v w s t L)
include P
theorem P0.moRows : ∀ r ∈ rows0 v w s t L, Mo r := by
 obtain ⟨b1, b2, b3, b4⟩ := P.hbDm
 obtain ⟨e1, e2, e3, e4⟩ := P.enDm
 have hk := P.hk
 have ht := P.ht
 have s1 := P.ds.dp; have s2 := P.ds.sz; have s3 := P.ds.vs; have s4 := P.ds.pk
 have t1 := P.dt.dp; have t2 := P.dt.sz; have t3 := P.dt.vs; have t4 := P.dt.pk
 have l1 := P.dL.dp; have l2 := P.dL.sz; have l3 := P.dL.vs; have l4 := P.dL.pk
 have kv := P.kv; have kw := P.kw; have tv := P.tv; have tw := P.tw
 have tyd : (Ty.bool).dp = 0 := rfl
 intro r hr
 simp only [rows0, List.mem_cons, List.not_mem_nil, or_false] at hr
 rcases hr with rfl | rfl | rfl | rfl | rfl | rfl | rfl <;> refine mo_eqT (by simp [Z150, Z151, Z152, Z153]) ?_ ?_ <;> refine ⟨?_, ?_, ?_, ?_⟩ <;>
  (try simp only [fullT, onceT, halfT, lamV, Vr.tm, Z114, Z115, Z116, Z117, Z130, Z131, Z132, Z133, Z126, Z127, Z128, Z129, Z122, Z123, Z124, Z125, tv, tw, ht, tyd]) <;> (first | exact e2 | exact e3 | exact Bd.wk l2 rfl | exact Bd.wk b2 rfl | exact Bd.wk t1 rfl | exact Bd.wk t2 rfl | exact Bd.wk t3 rfl | exact Bd.wk t4 rfl | exact Bd.wk b1 rfl | exact Bd.wk b3 rfl | exact Bd.wk b4 rfl | exact Bd.wk e1 rfl | exact Bd.wk e4 rfl | exact Bd.wkc l2 rfl | exact Bd.wkc l3 rfl | exact Bd.wkc b3 rfl | exact Bd.wkc b2 rfl | exact Bd.sm l2 s2 rfl | exact Bd.sm b2 t2 rfl | exact Bd.s4 l2 s2 t2 rfl | (with_reducible apply Bd.mx <;> (first | exact Bd.wk kv rfl | exact Bd.wk kw rfl | exact Bd.wk l4 rfl | exact Bd.wk s4 rfl | exact Bd.wk hk rfl | exact Bd.wk b4 rfl | exact Bd.wk t4 rfl | (with_reducible apply Bd.mx <;> (first | exact Bd.wk kv rfl | exact Bd.wk l1 rfl | exact Bd.wk s1 rfl | exact Bd.wk b1 rfl | exact Bd.wk t1 rfl | exact Bd.wk s4 rfl | exact Bd.wk hk rfl | exact Bd.wk b4 rfl | exact Bd.zz | (with_reducible apply Bd.mx <;> (first | exact Bd.wk kw rfl | exact Bd.wk l4 rfl | exact Bd.wk kv rfl | (with_reducible apply Bd.mx <;> (first | exact Bd.wk s1 rfl | exact Bd.wk kw rfl | exact Bd.wk l4 rfl | exact Bd.wk b1 rfl | exact Bd.zz | (with_reducible apply Bd.sc; (apply Bd.mx <;> (first | exact Bd.wk l1 rfl | exact Bd.zz | (with_reducible apply Bd.sc; (apply Bd.mx <;> (first | exact Bd.wk l1 rfl | exact Bd.zz)))))))))) | (with_reducible apply Bd.sc; (first | exact Bd.wk kw rfl | exact Bd.wk l4 rfl | exact Bd.wk kv rfl | (with_reducible apply Bd.mx <;> (first | exact Bd.wk s1 rfl | exact Bd.wk kw rfl | exact Bd.wk l4 rfl | exact Bd.wk b1 rfl | exact Bd.zz | (with_reducible apply Bd.sc; (apply Bd.mx <;> (first | exact Bd.wk l1 rfl | exact Bd.zz | (with_reducible apply Bd.sc; (apply Bd.mx <;> (first | exact Bd.wk l1 rfl | exact Bd.zz)))))))))))))) | (with_reducible apply Bd.sc; (first | exact Bd.wk kv rfl | exact Bd.wk kw rfl | exact Bd.wk l4 rfl | exact Bd.wk s4 rfl | exact Bd.wk hk rfl | exact Bd.wk b4 rfl | exact Bd.wk t4 rfl | (with_reducible apply Bd.mx <;> (first | exact Bd.wk kv rfl | exact Bd.wk l1 rfl | exact Bd.wk s1 rfl | exact Bd.wk b1 rfl | exact Bd.wk t1 rfl | exact Bd.wk s4 rfl | exact Bd.wk hk rfl | exact Bd.wk b4 rfl | exact Bd.zz | (with_reducible apply Bd.mx <;> (first | exact Bd.wk kw rfl | exact Bd.wk l4 rfl | exact Bd.wk kv rfl | (with_reducible apply Bd.mx <;> (first | exact Bd.wk s1 rfl | exact Bd.wk kw rfl | exact Bd.wk l4 rfl | exact Bd.wk b1 rfl | exact Bd.zz | (with_reducible apply Bd.sc; (apply Bd.mx <;> (first | exact Bd.wk l1 rfl | exact Bd.zz | (with_reducible apply Bd.sc; (apply Bd.mx <;> (first | exact Bd.wk l1 rfl | exact Bd.zz)))))))))) | (with_reducible apply Bd.sc; (first | exact Bd.wk kw rfl | exact Bd.wk l4 rfl | exact Bd.wk kv rfl | (with_reducible apply Bd.mx <;> (first | exact Bd.wk s1 rfl | exact Bd.wk kw rfl | exact Bd.wk l4 rfl | exact Bd.wk b1 rfl | exact Bd.zz | (with_reducible apply Bd.sc; (apply Bd.mx <;> (first | exact Bd.wk l1 rfl | exact Bd.zz | (with_reducible apply Bd.sc; (apply Bd.mx <;> (first | exact Bd.wk l1 rfl | exact Bd.zz)))))))))))))) | lia)
theorem P0.moDue : ∀ th ∈ due0 v w s t L, MoTh th := by
 intro th h
 unfold due0 at h
 rcases List.mem_append.mp h with q | q
 ·exact mo_headD th q
 ·obtain ⟨r, hr, rfl⟩ := List.mem_map.mp q
  exact moTh0 (P.moRows r hr)
theorem runs0 : Runs (headD, headC) (steps0 v w s t L) (some (due0 v w s t L, headC)) := by
 have hD := P.moDue
 have tv := P.tv; have tw := P.tw
 have tO : typeOf (lamV w L) = some bbb := by simp [Z73, Z74, Z75, Z76, P.tL, tw]
 have cO : ckCons headC (lamV w L) = true := P.cL
 have tH : typeOf (halfT v w s L) = some bbb := by show typeOf (.lam _ _ _ (hbd v w s L)) = _; ((first | rewrite [Z73] | rewrite [Z74] | rewrite [Z75] | rewrite [Z76]); rw [P.hbTy, P.ht]); rfl
 have tF : typeOf (lamV v (lamV w L)) = some (.fn .bool bbb) := by simp [Z73, Z74, Z75, Z76, P.tL, tv, tw]
 have tOn : typeOf (onceT v w s L) = some bbb := by unfold onceT; ((first | rewrite [Z73] | rewrite [Z74] | rewrite [Z75] | rewrite [Z76]); rw [tF, P.ts]); simp [Z1, Z2, Z3, Z4]
 have tFu : typeOf (fullT v w s t L) = some bb := by unfold fullT; ((first | rewrite [Z73] | rewrite [Z74] | rewrite [Z75] | rewrite [Z76]); rw [tOn, P.tt]); simp [Z1, Z2, Z3, Z4]
 have tHt : typeOf (.app (halfT v w s L) t) = some bb := by ((first | rewrite [Z73] | rewrite [Z74] | rewrite [Z75] | rewrite [Z76]); rw [tH, P.tt]); simp [Z1, Z2, Z3, Z4]
 have e0 : headD = (due0 v w s t L).take 2 := rfl
 have e1 : due0 v w s t L = (due0 v w s t L).take 9 := rfl
 rw [e1, e0]
 obtain ⟨b1, b2, b3, b4⟩ := P.hbDm
 have moT : Mo t := ⟨by have := P.dt.dp; exact Bd.wk this rfl, by have := P.dt.sz; exact Bd.wk this rfl, by have := P.dt.vs; exact Bd.wk this rfl, by have := P.dt.pk; exact Bd.wk this rfl⟩
 have moS : Mo s := ⟨by have := P.ds.dp; exact Bd.wk this rfl, by have := P.ds.sz; exact Bd.wk this rfl, by have := P.ds.vs; exact Bd.wk this rfl, by have := P.ds.pk; exact Bd.wk this rfl⟩
 have moO : Mo (lamV w L) := by
  have l1 := P.dL.dp; have l2 := P.dL.sz; have l3 := P.dL.vs; have l4 := P.dL.pk; have := P.kw
  have tyd : (Ty.bool).dp = 0 := rfl
  refine ⟨?_, ?_, ?_, ?_⟩ <;> simp only [lamV, Z114, Z115, Z116, Z117, Z130, Z131, Z132, Z133, Z126, Z127, Z128, Z129, Z122, Z123, Z124, Z125, tw, tyd] <;> (first | exact Bd.wk l2 rfl | exact Bd.wkc l3 rfl | (with_reducible apply Bd.mx <;> (first | exact Bd.wk this rfl | exact Bd.wk l4 rfl | (with_reducible apply Bd.mx <;> (first | exact Bd.wk l1 rfl | exact Bd.zz)))) | (with_reducible apply Bd.sc; (first | exact Bd.wk this rfl | exact Bd.wk l4 rfl | (with_reducible apply Bd.mx <;> (first | exact Bd.wk l1 rfl | exact Bd.zz)))))
 have moB : Mo (hbd v w s L) := ⟨by exact Bd.wk b1 rfl, by exact Bd.wk b2 rfl, by exact Bd.wk b3 rfl, by exact Bd.wk b4 rfl⟩
 have vd : v.t.dp ≤ 60 := by rw [tv]; simp [Z150, Z151, Z152, Z153]
 have hd : (hvr v w s L).t.dp ≤ 60 := by rw [P.ht]; simp [Z150, Z151, Z152, Z153]
 unfold steps0
 refine .at 2 rfl (step_beta (checked_of tO cO) tO) ⟨moO, vd⟩ hD ?_
 refine .at 3 rfl (step_inst (l := ⟨[], eqT bbb (.app (lamV v (lamV w L)) v.tm) (lamV w L)⟩) (getTh_take (i := 2) (by decide) rfl) (instTh_0 P.pair ?_)) ⟨fun p hp => by simp at hp; subst hp; exact ⟨moS, vd⟩, by simp⟩ hD ?_
 ·rw [put_eqT, put_app, put_self, half_is v w s L, show put (lamV v (lamV w L)) [(v, s)] = lamV v (lamV w L) from put_own ..]; rfl
 refine .at 4 rfl (step_refl (checked_of P.tt P.ct) P.tt) moT hD ?_
 refine .at 5 rfl (step_two (l := ⟨[], eqT bbb (onceT v w s L) (halfT v w s L)⟩) (r := ⟨[], eqT .bool t t⟩) (getTh_take (i := 3) (by decide) rfl) (getTh_take (i := 4) (by decide) rfl) ?_) trivial hD ?_
 ·simp only [twoTh, sides_eqT, Option.bind_some]
  rw [show typeOf (.app (onceT v w s L) t) = some bb from tFu]; rfl
 refine .at 6 rfl (step_beta (checked_of P.hbTy P.hbCk) P.hbTy) ⟨moB, hd⟩ hD ?_
 refine .at 7 rfl (step_inst (l := ⟨[], eqT bb (.app (halfT v w s L) (hvr v w s L).tm) (hbd v w s L)⟩) (getTh_take (i := 6) (by decide) rfl) (instTh_0 P.pair2 ?_)) ⟨fun p hp => by simp at hp; subst hp; exact ⟨moT, hd⟩, by simp⟩ hD ?_
 ·rw [put_eqT, put_app, put_self]
  show eqT bb (.app (put (lamV (hvr v w s L) (hbd v w s L)) _) t) (endT v w s t L) = _
  rw [show put (lamV (hvr v w s L) (hbd v w s L)) [(hvr v w s L, t)] = lamV (hvr v w s L) (hbd v w s L) from put_own ..]; rfl
 refine .at 8 rfl (step_two (l := ⟨[], eqT bb (fullT v w s t L) (.app (halfT v w s L) t)⟩) (r := ⟨[], eqT bb (.app (halfT v w s L) t) (endT v w s t L)⟩) (getTh_take (i := 5) (by decide) rfl) (getTh_take (i := 7) (by decide) rfl) ?_) trivial hD (.nil _)
 ·simp only [twoTh, sides_eqT, Option.bind_some, alike_self, if_true, tFu]; rfl
end
structure Lf where
 tm : Tm
 l : List Vr
noncomputable abbrev vxi : Vr := ⟨.x, 1, .ind⟩
noncomputable def leafL : List Lf := [⟨vx.tm, [vx]⟩, ⟨vy.tm, [vy]⟩, ⟨vp.tm, [vp]⟩, ⟨eqT .ind vz.tm vxi.tm, [vz, vxi]⟩, ⟨tK, []⟩]
noncomputable def pool0 : List Vr := [vx, vy, vp]
noncomputable def stepO (u : Vr) (o : List Vr) (r : Vr) : List Vr := if !(r.eq u) && !(memv r o) then o ++ [r] else o
noncomputable def swapT (a : Tm) : List Pr → Tm
 | [] => a
 | (v, s) :: r => if v.tm.eq a then s else swapT a r
theorem Z95 : swapT a ([]) = (a) := rfl
theorem Z96 : swapT a ((v, s) :: r) = (if v.tm.eq a then s else swapT a r) := rfl
theorem free_var (v u : Vr) (o : List Vr) : freeInto v.tm [u] o = stepO u o v := by
 show (if memv v [u] || memv v o then o else o ++ [v]) = if !(v.eq u) && !(memv v o) then o ++ [v] else o
 have : memv v [u] = v.eq u := by simp [memv, Vr.eq_comm u v]
 rw [this]
 cases v.eq u <;> cases memv v o <;> rfl
theorem fv_var (v r : Vr) : fv v.tm r = memv r [v] := by simp [Z29, Z30, Z31, Z32, Vr.tm, memv]
theorem tm_eq_var (v w : Vr) : v.tm.eq w.tm = v.eq w := by
 rw [Bool.eq_iff_iff, Tm.eq_iff, Vr.eq_iff]
 obtain ⟨x, k, t⟩ := v
 obtain ⟨x', k', t'⟩ := w
 simp [Vr.tm]
theorem put_var (v : Vr) (ps : List Pr) : put v.tm ps = (lookP v ps).getD v.tm := by
 show put (.var v.x v.k v.t) ps = _
 (first | rw [Z33] | rw [Z34] | rw [Z35] | rw [Z36]); rfl
theorem swap_var (v : Vr) : ∀ ps : List Pr, swapT v.tm ps = (lookP v ps).getD v.tm
 | [] => rfl
 | (w, s) :: r => by
  ((first | rewrite [Z95] | rewrite [Z96]); (first | rewrite [Z93] | rewrite [Z94]); rw [tm_eq_var, swap_var v r])
  cases w.eq v <;> rfl
theorem put_eqT' (s : Ty) (a b : Tm) (ps : List Pr) : put (eqT s a b) ps = eqT s (put a ps) (put b ps) := by
 cases ps with
 | nil => rw [put_nil, put_nil, put_nil]
 | cons p ps => exact put_eqT ..
theorem look_not {v : Vr} : ∀ {ps : List Pr}, (∀ p ∈ ps, p.1.eq v = false) → lookP v ps = none
 | [], _ => rfl
 | (w, s) :: r, h => by
  have := h (w, s) List.mem_cons_self
  ((first | rewrite [Z93] | rewrite [Z94]); rw [show w.eq v = false from this])
  exact look_not fun p hp => h p (List.mem_cons_of_mem _ hp)
theorem swap_not {a : Tm} : ∀ {ps : List Pr}, (∀ p ∈ ps, p.1.tm.eq a = false) → swapT a ps = a
 | [], _ => rfl
 | (w, s) :: r, h => by
  have := h (w, s) List.mem_cons_self
  ((first | rewrite [Z95] | rewrite [Z96]); rw [show w.tm.eq a = false from this])
  exact swap_not fun p hp => h p (List.mem_cons_of_mem _ hp)
structure LfF (a : Lf) : Prop where
 ty : typeOf a.tm = some .bool
 ck : ckCons headC a.tm = true
 dp : a.tm.dp ≤ 4
 sz : a.tm.sz ≤ 2
 vs : a.tm.vs ≤ 2
 pk : a.tm.pk ≤ 1
 fvl : ∀ r, fv a.tm r = memv r a.l
 fold : ∀ u o, freeInto a.tm [u] o = a.l.foldl (stepO u) o
 nk : ∀ r ∈ a.l, r.k ≤ 1
 nt : ∀ r ∈ a.l, r.t.dp = 0
 ll : a.l.length ≤ 2
 kind : (∃ y, a.tm = y.tm ∧ a.l = [y]) ∨ (∀ ps : List Pr, (∀ p ∈ ps, p.1.t = .bool) → put a.tm ps = a.tm ∧ swapT a.tm ps = a.tm)
theorem leaf_var (v : Vr) (ht : v.t = .bool) (hk : v.k ≤ 1) : LfF ⟨v.tm, [v]⟩ := by
 obtain ⟨x, k, t⟩ := v
 cases ht
 exact { ty := rfl, ck := rfl, dp := by simp [Vr.tm, Z114, Z115, Z116, Z117, Z150, Z151, Z152, Z153], sz := by simp [Vr.tm, Z130, Z131, Z132, Z133], vs := by simp [Vr.tm, Z126, Z127, Z128, Z129], pk := hk, fvl := fun r => fv_var _ r, fold := fun u o => free_var _ u o, nk := fun r hr => by simp at hr; subst hr; exact hk, nt := fun r hr => by simp at hr; subst hr; rfl, ll := by simp, kind := .inl ⟨_, rfl, rfl⟩ }
theorem leaf_ok : ∀ a ∈ leafL, LfF a := by
 intro a ha
 simp only [leafL, List.mem_cons, List.not_mem_nil, or_false] at ha
 rcases ha with rfl | rfl | rfl | rfl | rfl
 ·exact leaf_var vx rfl (by decide)
 ·exact leaf_var vy rfl (by decide)
 ·exact leaf_var vp rfl (by decide)
 ·refine { ty := by rfl, ck := by rfl, dp := by decide, sz := by decide, vs := by decide, pk := by decide, fvl := fun r => ?_, fold := fun u o => ?_, nk := by decide, nt := by decide, ll := by decide, kind := .inr fun ps h => ⟨?_, ?_⟩ }
  ·simp only [eqT, Z29, Z30, Z31, Z32, fv_var]; simp [memv]
  ·simp only [eqT, Z25, Z26, Z27, Z28, free_var, List.foldl_cons, List.foldl_nil]
  ·have h1 (v : Vr) (hv : v.t = .ind) : put v.tm ps = v.tm := by
    rw [put_var, look_not fun p hp => ?_]; rfl
    have := h p hp
    cases he : p.1.eq v with
    | false => rfl
    | true => rw [Vr.eq_iff.mp he, hv] at this; cases this
   show put (eqT .ind vz.tm vxi.tm) ps = eqT .ind vz.tm vxi.tm
   rw [put_eqT', h1 vz rfl, h1 vxi rfl]
  ·exact swap_not fun p hp => rfl
 ·refine { ty := by rfl, ck := by rfl, dp := by decide, sz := by decide, vs := by decide, pk := by decide, fvl := fun r => ?_, fold := fun u o => ?_, nk := by decide, nt := by decide, ll := by decide, kind := .inr fun ps h => ⟨?_, ?_⟩ }
  ·rfl
  ·rfl
  ·exact put_con ..
  ·exact swap_not fun p hp => rfl
noncomputable def PlF (v : Vr) : Prop := v.t = .bool ∧ v.k ≤ 1
theorem pool_ok : ∀ v ∈ pool0, PlF v := by
 intro v hv
 simp only [pool0, List.mem_cons, List.not_mem_nil, or_false] at hv
 rcases hv with rfl | rfl | rfl <;> exact ⟨rfl, by decide⟩
/-! what is bound, and what is round it -/
noncomputable def ordL (u : Vr) (ins : List Vr) : List Vr := ins.foldl (stepO u) []
noncomputable def arL (v w : Vr) (sl tl order : List Vr) : List Vr := (if memv v order then sl else []) ++ if memv w order then tl else []
noncomputable abbrev bodyT (a b : Lf) : Tm := eqT .bool a.tm b.tm
theorem free_lam {a b : Lf} (Fa : LfF a) (Fb : LfF b) (u : Vr) : freeV (lamV u (bodyT a b)) = ordL u (a.l ++ b.l) := by
 show freeInto b.tm [u] (freeInto a.tm [u] []) = _
 rw [Fa.fold, Fb.fold, ordL, List.foldl_append]
theorem memv_append (r : Vr) (a b : List Vr) : memv r (a ++ b) = (memv r a || memv r b) := by simp [memv]
theorem fv_body {a b : Lf} (Fa : LfF a) (Fb : LfF b) (r : Vr) : fv (bodyT a b) r = memv r (a.l ++ b.l) := by
 rw [memv_append, ← Fa.fvl, ← Fb.fvl]; simp [bodyT, eqT, Z29, Z30, Z31, Z32]
theorem mem_ord {a b : Lf} (Fa : LfF a) (Fb : LfF b) (u r : Vr) : memv r (ordL u (a.l ++ b.l)) = (!(r.eq u) && memv r (freeV (bodyT a b))) := by
 rw [← free_lam Fa Fb, free_fv, free_fv]
 show (!((⟨u.x, u.k, u.t⟩ : Vr).eq r) && fv (bodyT a b) r) = _
 rw [Vr.eq_comm]
noncomputable def newV (u : Vr) (ins ar : List Vr) : Nat := if memv u ar then (if memn u.x (u.k + 1) ((ins ++ ar).map nxOf) then u.k + 2 else u.k + 1) else u.k
theorem memn_congr {l l' : List Vr} (h : ∀ r, memv r l = memv r l') (x : Bs) (k : Nat) : memn x k (l.map nxOf) = memn x k (l'.map nxOf) := by
 have hm : ∀ l l' : List Vr, (∀ r, memv r l = memv r l') → memn x k (l.map nxOf) = true → memn x k (l'.map nxOf) = true := by
  intro l l' h hq
  unfold memn at hq ⊢
  rw [List.any_eq_true] at hq ⊢
  obtain ⟨n, hn, e⟩ := hq
  obtain ⟨r, hr, rfl⟩ := List.mem_map.mp hn
  exact ⟨nxOf r, List.mem_map_of_mem (memv_iff.mp (by rw [← h r]; exact memv_iff.mpr hr)), e⟩
 rw [Bool.eq_iff_iff]
 exact ⟨hm _ _ h, hm _ _ fun r => (h r).symm⟩
theorem new_is {a b c d e : Lf} (Fa : LfF a) (Fb : LfF b) (Fc : LfF c) (Fd : LfF d) (Fe : LfF e) (u v w : Vr) (hu : PlF u) :
  newK u (bodyT a b) [(v, bodyT c d), (w, e.tm)] = newV u (a.l ++ b.l) (arL v w (c.l ++ d.l) e.l (ordL u (a.l ++ b.l))) := by
 have hin : innerOf u (freeV (bodyT a b)) [(v, bodyT c d), (w, e.tm)] = (if memv v (ordL u (a.l ++ b.l)) then [(v, bodyT c d)] else []) ++ (if memv w (ordL u (a.l ++ b.l)) then [(w, e.tm)] else []) := by
  unfold innerOf
  rw [List.filter_cons, List.filter_cons, List.filter_nil, mem_ord Fa Fb, mem_ord Fa Fb]
  cases (!(v.eq u) && memv v (freeV (bodyT a b))) <;> cases (!(w.eq u) && memv w (freeV (bodyT a b))) <;> rfl
 have hs (r : Vr) : memv r (freeV (bodyT c d)) = memv r (c.l ++ d.l) := by rw [free_fv, fv_body Fc Fd]
 have ht (r : Vr) : memv r (freeV e.tm) = memv r e.l := by rw [free_fv, Fe.fvl]
 have hmem (r : Vr) : memv r ((innerOf u (freeV (bodyT a b)) [(v, bodyT c d), (w, e.tm)]).flatMap fun p => freeV p.2) = memv r (arL v w (c.l ++ d.l) e.l (ordL u (a.l ++ b.l))) := by
  rw [hin]
  unfold arL
  cases memv v (ordL u (a.l ++ b.l)) <;> cases memv w (ordL u (a.l ++ b.l)) <;> simp only [Bool.false_eq_true, if_false, if_true, List.nil_append, List.append_nil, List.flatMap_nil, List.flatMap_cons, List.flatMap_append, memv_append, hs, ht]
 have hc : caughtBy u (innerOf u (freeV (bodyT a b)) [(v, bodyT c d), (w, e.tm)]) = memv u (arL v w (c.l ++ d.l) e.l (ordL u (a.l ++ b.l))) := by
  rw [← hmem]
  unfold caughtBy memv
  rw [List.any_flatMap]
 have hn (x : Bs) (k : Nat) : memn x k (namesOf (freeV (bodyT a b)) (innerOf u (freeV (bodyT a b)) [(v, bodyT c d), (w, e.tm)])) = memn x k (((a.l ++ b.l) ++ arL v w (c.l ++ d.l) e.l (ordL u (a.l ++ b.l))).map nxOf) := by
  unfold namesOf
  rw [← List.map_flatMap, ← List.map_append]
  refine memn_congr (fun r => ?_) x k
  rw [memv_append, memv_append (b := arL _ _ _ _ _), hmem, free_fv, fv_body Fa Fb]
 unfold newK newV
 rw [hc]
 cases hm : memv u (arL v w (c.l ++ d.l) e.l (ordL u (a.l ++ b.l))) with
 | false => rfl
 | true =>
  simp only [if_true]
  have hbig : ∀ n ∈ ((a.l ++ b.l) ++ arL v w (c.l ++ d.l) e.l (ordL u (a.l ++ b.l))).map nxOf, n.2 ≤ 1 := by
   intro n hn
   obtain ⟨r, hr, rfl⟩ := List.mem_map.mp hn
   show r.k ≤ 1
   rcases List.mem_append.mp hr with h | h
   ·rcases List.mem_append.mp h with h | h
    ·exact Fa.nk r h
    ·exact Fb.nk r h
   ·unfold arL at h
    rcases List.mem_append.mp h with h | h
    ·split at h
     ·rcases List.mem_append.mp h with h | h
      ·exact Fc.nk r h
      ·exact Fd.nk r h
     ·cases h
    ·split at h
     ·exact Fe.nk r h
     ·cases h
  have h0 : memn u.x u.k (((a.l ++ b.l) ++ arL v w (c.l ++ d.l) e.l (ordL u (a.l ++ b.l))).map nxOf) = true := memn_of_memv (by rw [memv_append, hm]; simp)
  have h2 : memn u.x (u.k + 1 + 1) (((a.l ++ b.l) ++ arL v w (c.l ++ d.l) e.l (ordL u (a.l ++ b.l))).map nxOf) = false := memn_big hbig (by lia)
  ((first | rewrite [Z83] | rewrite [Z84]); rewrite [hn, h0, if_pos rfl]; (first | rewrite [Z83] | rewrite [Z84]); rewrite [hn]; (first | rewrite [Z83] | rewrite [Z84]); rw [hn, h2])
  rfl
theorem direct_is {a b : Lf} (Fa : LfF a) (Fb : LfF b) (u : Vr) (hu : PlF u) (ps : List Pr) (hp : ∀ p ∈ ps, p.1.t = .bool) :
  put (lamV u (bodyT a b)) ps = lamV ⟨u.x, newK u (bodyT a b) ps, u.t⟩ (eqT .bool (swapT a.tm ((u, .var u.x (newK u (bodyT a b) ps) u.t) :: ps)) (swapT b.tm ((u, .var u.x (newK u (bodyT a b) ps) u.t) :: ps))) := by
 show put (.lam u.x u.k u.t (bodyT a b)) ps = _
 rw [put_lam, put_eqT']
 have hk : ∀ p ∈ innR u (bodyT a b) ps, p.1.t = .bool := fun p h => by
  rcases innR_mem h with q | rfl
  ·exact hp p q
  ·exact hu.1
 have hk2 : ∀ p ∈ (u, Tm.var u.x (newK u (bodyT a b) ps) u.t) :: ps, p.1.t = .bool := fun p h => by
  rcases List.mem_cons.mp h with rfl | q
  ·exact hu.1
  ·exact hp p q
 have key : ∀ c : Lf, LfF c → (∀ y, memv y c.l = true → fv (bodyT a b) y = true) → put c.tm (innR u (bodyT a b) ps) = swapT c.tm ((u, .var u.x (newK u (bodyT a b) ps) u.t) :: ps) := by
  intro c Fc hc
  rcases Fc.kind with ⟨y, e1, e2⟩ | h
  ·(rewrite [e1, put_var, swap_var]; (first | rw [Z93] | rw [Z94]))
   have hy : fv (bodyT a b) y = true := hc y (by rw [e2]; simp [memv, Vr.eq_self])
   have hm : memv y (freeV (bodyT a b)) = true := by rw [free_fv]; exact hy
   cases he : u.eq y with
   | true =>
    have := Vr.eq_iff.mp he
    subst this
    rw [if_pos rfl]
    unfold innR
    split
    ·(rewrite [lookP_append, lookP_inner_v]; (first | rewrite [Z93] | rewrite [Z94]); rw [Vr.eq_self]); rfl
    ·rename_i hq
     rw [lookP_inner_v]
     unfold newK
     rw [if_neg hq]; rfl
   | false =>
    simp only [Bool.false_eq_true, if_false]
    unfold innR
    split
    ·(rewrite [lookP_append, lookP_inner he hm]; (first | rewrite [Z93] | rewrite [Z94]); rw [he])
     simp [Z93, Z94]
    ·rw [lookP_inner he hm]
  ·rw [(h _ hk).1, (h _ hk2).2]
 rw [key a Fa fun y hy => by rw [fv_body Fa Fb, memv_append, hy]; rfl, key b Fb fun y hy => by rw [fv_body Fa Fb, memv_append, hy]; simp]
theorem p0_of {a b c d e : Lf} (Fa : LfF a) (Fb : LfF b) (Fc : LfF c) (Fd : LfF d) (Fe : LfF e) {u v w : Vr} (hu : PlF u) (hv : PlF v) (hw : PlF w) (hvw : v.eq w = false) : P0 v w (bodyT c d) e.tm (lamV u (bodyT a b)) := by
 have h1 := Fa.dp; have h2 := Fb.dp; have h3 := Fc.dp; have h4 := Fd.dp; have h5 := Fe.dp
 have h6 := Fa.sz; have h7 := Fb.sz; have h8 := Fc.sz; have h9 := Fd.sz
 have g1 := Fa.vs; have g2 := Fb.vs; have g3 := Fc.vs; have g4 := Fd.vs
 have g6 := Fa.pk; have g7 := Fb.pk; have g8 := Fc.pk; have g9 := Fd.pk; have g5 := Fe.pk
 have hk := hu.2
 have tyb (a b : Lf) (Fa : LfF a) (Fb : LfF b) : typeOf (bodyT a b) = some .bool := by
  simp only [bodyT, eqT, Z73, Z74, Z75, Z76, Fa.ty, Fb.ty]; rfl
 have ckb (a b : Lf) (Fa : LfF a) (Fb : LfF b) : ckCons headC (bodyT a b) = true := by
  simp only [bodyT, eqT, Z55, Z56, Z57, Z58, Fa.ck, Fb.ck]; rfl
 refine { tv := hv.1, tw := hw.1, ts := tyb c d Fc Fd, tt := Fe.ty, tL := ?_, cs := ckb c d Fc Fd, ct := Fe.ck, cL := ckb a b Fa Fb, ds := ⟨?_, ?_, ?_, ?_⟩, dt := ⟨by exact Bd.wk h5 rfl, Fe.sz, Fe.vs, by exact Bd.wk g5 rfl⟩, dL := ⟨?_, ?_, ?_, ?_⟩, kv := by have := hv.2; exact Bd.wk this rfl, kw := by have := hw.2; exact Bd.wk this rfl, vw := hvw }
 ·simp only [Z73, Z74, Z75, Z76, tyb a b Fa Fb, hu.1]; rfl
 ·simp [bodyT, eqT, Z114, Z115, Z116, Z117, Z150, Z151, Z152, Z153]; (apply Bd.mx <;> (first | exact Bd.wk h4 rfl | (with_reducible apply Bd.sc; (apply Bd.mx <;> (first | exact h3 | lia)))))
 ·simp only [bodyT, eqT, Z130, Z131, Z132, Z133]; lia
 ·simp only [bodyT, eqT, Z126, Z127, Z128, Z129]; lia
 ·simp only [bodyT, eqT, Z122, Z123, Z124, Z125]; (apply Bd.mx <;> (first | exact Bd.wk g9 rfl | (with_reducible apply Bd.mx <;> (first | exact Bd.wk g8 rfl | exact Bd.zz))))
 ·simp [bodyT, eqT, Z114, Z115, Z116, Z117, Z150, Z151, Z152, Z153, hu.1]; (apply Bd.mx <;> (first | exact Bd.wk h2 rfl | (with_reducible apply Bd.sc; (apply Bd.mx <;> (first | exact h1 | lia)))))
 ·simp only [bodyT, eqT, Z130, Z131, Z132, Z133]; lia
 ·simp only [bodyT, eqT, Z126, Z127, Z128, Z129]; lia
 ·simp only [bodyT, eqT, Z122, Z123, Z124, Z125]; (apply Bd.mx <;> (first | exact Bd.wk hk rfl | (with_reducible apply Bd.mx <;> (first | exact Bd.wk g7 rfl | (with_reducible apply Bd.mx <;> (first | exact Bd.wk g6 rfl | exact Bd.zz))))))
noncomputable def b32a : List S := [.assign (.var 8) (.lst [(.glob 5), (.glob 6), (.glob 7)]), .assign (.tup [(.var 9), (.var 10), (.var 11)]) (.tup [(.idx (.var 8) (.bin .mod (.var 2) (Qi 3))), (.idx (.var 8) (.bin .mod (.var 3) (Qi 3))), (.idx (.var 8) (.bin .mod (.bin .add (.bin .add (.var 3) (Qi 1)) (.bin .mod (.var 4) (Qi 2))) (Qi 3)))]), .assign (.tup [(.var 12), (.var 13), (.var 14), (.var 15), (.var 16)]) (.tup [(.call 30 [(.var 0)]), (.call 30 [(.var 1)]), (.call 30 [(.var 5)]), (.call 30 [(.var 6)]), (.call 30 [(.var 7)])]), .assign (.var 17) (.tup [(.call 27 [(.glob 1), (Qx 14 0), (Qx 15 0)]), (.bin .add (Qx 14 1) (Qx 15 1))]), .assign (.var 18) (.tup [(Qs 6), (.var 9), (.call 27 [(.glob 1), (Qx 12 0), (Qx 13 0)])]), .assign (.var 19) (.bin .add (Qx 12 1) (Qx 13 1))]
noncomputable def b32b : List S := [.newl 20 [], .fors (.var 21) (.var 19) [.ite (.and [(.cmp .ne (.var 21) (.var 9)), (.cmp .nmem (.var 21) (.var 20))]) [.app 20 (.var 21)] []], .ite (.cmp .ne (.call 3 [(.var 18)]) (.var 20)) [.ret (.con (.bool false))] []]
noncomputable def b32c : List S := [.assign (.var 22) (.lst []), .fors (.tup [(.var 21), (.var 23)]) (.tup [(.tup [(.var 10), (.var 17)]), (.tup [(.var 11), (.var 16)])]) [.ite (.cmp .mem (.var 21) (.var 20)) [.assign (.var 22) (.bin .add (.var 22) (Qx 23 1))] []]]
noncomputable def b32d : List S := [.assign (.var 24) (.var 9), .ite (.cmp .mem (.var 9) (.var 22)) [.assign (.var 25) (.comp 2 (Qx 39 1) (.var 39) (.bin .add (.var 19) (.var 22)) []), .assign (.var 26) (.comp 4 (.bin .add (Qx 9 1) (.var 39)) (.var 39) (.tup [(Qs 9), (Qs 27)]) [(.cmp .nmem (.bin .add (Qx 9 1) (.var 39)) (.var 25))]), .assign (.var 24) (.tup [(Qs 3), (Qx 26 0), (.glob 1)])] []]
noncomputable def b32e : List S := [.assign (.var 27) (.lst [(.tup [(.var 9), (.var 24)]), (.tup [(.var 10), (Qx 17 0)]), (.tup [(.var 11), (Qx 16 0)])]), .assign (.var 28) (.call 7 [(.tup [(.tup [(.var 10), (Qx 17 0)]), (.tup [(.var 11), (Qx 16 0)])]), (.var 18)]), .ite (.cmp .ne (.var 28) (.tup [(Qs 6), (.var 24), (.call 27 [(.glob 1), (.call 31 [(Qx 12 0), (.var 27)]), (.call 31 [(Qx 13 0), (.var 27)])])])) [.ret (.con (.bool false))] []]
noncomputable def b32f : List S := [.assign (.var 29) (.tup [(Qs 6), (.var 11), (.var 18)]), .assign (.var 30) (.tup [(Qs 6), (.var 10), (.var 29)]), .assign (.var 31) (.call 7 [(.tup [(.tup [(.var 10), (Qx 17 0)])]), (.var 29)]), .assign (.var 32) (.call 7 [(.tup [(.tup [(Qx 31 1), (Qx 16 0)])]), (Qx 31 2)]), .ite (.cmp .isNot (.call 5 [(.var 32), (.var 28)]) (.con (.bool true))) [.ret (.con (.bool false))] []]
noncomputable def b32g : List S := [.assign (.tup [(.var 33), (.var 34)]) (.call 29 []), .assign (.var 33) (.bin .add (.var 33) (.lst [(.tup [(Qs 16), (.var 10), (.var 29)]), (.tup [(Qs 17), (.tup [(.tup [(.var 10), (Qx 17 0)])]), (Qi 2)]), (.tup [(Qs 11), (Qx 16 0)]), (.tup [(Qs 7), (Qi 3), (Qi 4)])])), .assign (.var 33) (.bin .add (.var 33) (.lst [(.tup [(Qs 16), (Qx 31 1), (Qx 31 2)]), (.tup [(Qs 17), (.tup [(.tup [(Qx 31 1), (Qx 16 0)])]), (Qi 6)]), (.tup [(Qs 15), (Qi 5), (Qi 7)])]))]
noncomputable def b32h : List S := [.assign (.var 35) (.tup [(Qs 7), (.var 30), (Qx 17 0)]), .assign (.var 36) (.tup [(Qs 7), (.var 35), (Qx 16 0)]), .assign (.var 37) (.lst [(.call 27 [(.glob 4), (.tup [(Qs 7), (.var 30), (.var 10)]), (.var 29)]), (.call 27 [(.glob 4), (.var 35), (.var 31)]), (.call 27 [(.glob 1), (Qx 16 0), (Qx 16 0)])]), .assign (.var 37) (.bin .add (.var 37) (.lst [(.call 27 [(.glob 3), (.var 36), (.tup [(Qs 7), (.var 31), (Qx 16 0)])]), (.call 27 [(.glob 3), (.tup [(Qs 7), (.var 31), (Qx 31 1)]), (Qx 31 2)])])), .assign (.var 37) (.bin .add (.var 37) (.lst [(.call 27 [(.glob 3), (.tup [(Qs 7), (.var 31), (Qx 16 0)]), (.var 32)]), (.call 27 [(.glob 3), (.var 36), (.var 32)])]))]
noncomputable def b32i : List S := [.ite (.cmp .ne (.call 28 [(.toTup (.var 33))]) (.bin .add (.var 34) (.comp 2 (.tup [(.tup []), (.var 39)]) (.var 39) (.var 37) []))) [.ret (.con (.bool false))] [], .ret (.con (.bool true))]
theorem b32_is : b32 = b32a ++ (b32b ++ (b32c ++ (b32d ++ (b32e ++ (b32f ++ (b32g ++ (b32h ++ (b32i)))))))) := rfl
noncomputable def eLf (a : Lf) : PyData := .tuple [eTm a.tm, .list (a.l.map eVr)]
theorem add_int (a b : Int) : binOp .add (.int a) (.int b) = some (.int (a + b)) := rfl
theorem cmp_vr_ne (v w : Vr) (h : w.t.dp ≤ 60) : cmpD .ne (eVr v) (eVr w) = some (.bool (!(v.eq w))) := by
 obtain ⟨x, k, t⟩ := w
 exact cmp_vrn v (show t.dp ≤ 900 by have : t.dp ≤ 60 := h; exact Bd.wk this rfl)
theorem nmem_vr' (v : Vr) (l : List Vr) (h : v.t.dp ≤ 900) : cmpD .nmem (eVr v) (.list (l.map eVr)) = some (.bool (!memv v l)) := by
 obtain ⟨x, k, t⟩ := v; exact nmem_vr l h
theorem cmp_tm_eq' {a b : Tm} (h : b.dp ≤ 60) : cmpD .eq (eTm a) (eTm b) = some (.bool (a.eq b)) := by
 have := depth_tm b
 refine cmpD_is _ _ _ ?_
 rw [cmp_e, if_pos (.inl (by simp only [dlim]; exact Bd.t1 this h rfl)), eqv_tm]
theorem call_law_leaf (n : Nat) (σ : Store) (k : Int) (i : Nat) (f : Lf) (h : Int.fmod k 5 = i) (hi : i < 5) (g : leafL[i]? = some f) : CF (n + 2) 30 [.d (.int k)] σ = .ok (.d (eLf f)) σ := by
 show close σ.length (exSs G (CF (n + 1)) b30 [Iv k, none, none] σ) = _
 have c1 := call_law_eq n σ .ind vz.tm vxi.tm
 have e1 : eTm vz.tm = eVr vz := rfl
 have e2 : eTm vxi.tm = .tuple [.str (st 3), .str (st 24), eTy .ind] := by rw [st24]; rfl
 rw [e1, e2] at c1
 have q := idx_listE eLf leafL i g (by exact Bd.ll hi rfl)
 have e3 : leafL.map eLf = [.tuple [eVr vx, .list [eVr vx]], .tuple [eVr vy, .list [eVr vy]], .tuple [eVr vp, .list [eVr vp]], .tuple [eTm (eqT .ind vz.tm vxi.tm), .list [eVr vz, .tuple [.str (st 3), .str (st 24), eTy .ind]]], .tuple [eTm tK, .list []]] := by
  rw [st24]; rfl
 rw [e3] at q
 simp only [EV, b30, G2, G5, G6, G7, G8, G9, c1, mod_int _ 5 (by decide), h, q]
theorem swap_find (a : Tm) : ∀ ps : List Pr, (match ps.findSome? (fun p => if p.1.tm.eq a then some (eTm p.2) else none) with | some r => r | none => eTm a) = eTm (swapT a ps)
 | [] => rfl
 | (v, s) :: r => by
  (rewrite [List.findSome?_cons]; (first | rw [Z95] | rw [Z96]))
  cases v.tm.eq a with
  | true => rfl
  | false => exact swap_find a r
theorem call_law_swap (n : Nat) (σ : Store) (a : Tm) (ps : List Pr) (ha : a.dp ≤ 60) : CF (n + 1) 31 [.d (eTm a), .d (.list (ps.map ePr))] σ = .ok (.d (eTm (swapT a ps))) σ := by
 show close σ.length (exSs G (CF n) b31 [Dv (eTm a), Dv (.list (ps.map ePr)), none, none] σ) = _
 obtain ⟨fr', ⟨y, z, rfl⟩, hf⟩ := for_find (σ := σ) (body := exSs G (CF n) [.ite (.cmp .eq (.var 2) (.var 0)) [.ret (.var 3)] []]) (t := .tup [(.var 2), (.var 3)]) ePr (fun p => if p.1.tm.eq a then some (eTm p.2) else none)
  (fun fr => ∃ y z, fr = [Dv (eTm a), Dv (.list (ps.map ePr)), y, z]) (pv := .d (.list (ps.map ePr))) (items := ps) (.list _) (by
   rintro fr ⟨v, s⟩ ⟨y, z, rfl⟩
   refine ⟨[Dv (eTm a), Dv (.list (ps.map ePr)), Dv (eVr v), Dv (eTm s)], by simp only [EV, ePr], ?_⟩
   have hc := cmp_tm_eq' (a := v.tm) ha
   rw [← eVr_tm] at hc
   dsimp only
   cases hq : v.tm.eq a with
   | true =>
    rw [hq] at hc
    simp only [EV, hc, if_true]
   | false =>
    rw [hq] at hc
    exact ⟨_, ⟨Dv (eVr v), Dv (eTm s), rfl⟩, by simp only [EV, hc]⟩) (fr := [Dv (eTm a), Dv (.list (ps.map ePr)), none, none]) ⟨none, none, rfl⟩
 have hs := swap_find a ps
 simp only [EV, b31, s_fors, hf]
 cases hq : ps.findSome? (fun p => if p.1.tm.eq a then some (eTm p.2) else none) with
 | some r =>
  rw [hq] at hs
  simp only [EV, k1_ok]
  rw [← hs]
 | none =>
  rw [hq] at hs
  simp only [EV, k1_ok]
  rw [← hs]
theorem putting_a (n : Nat) (a0 a1 a2 a3 a4 a5 a6 a7 : Int) (σ : Store) (iu iv iw ja jb jc jd je : Nat) (u v w : Vr) (a b c d e : Lf) (h1 : Int.fmod a2 3 = iu) (h2 : Int.fmod a3 3 = iv) (h3 : Int.fmod (a3 + 1 + Int.fmod a4 2) 3 = iw)
  (h4 : Int.fmod a0 5 = ja) (h5 : Int.fmod a1 5 = jb) (h6 : Int.fmod a5 5 = jc) (h7 : Int.fmod a6 5 = jd) (h8 : Int.fmod a7 5 = je) (l1 : iu < 3) (l2 : iv < 3) (l3 : iw < 3) (l4 : ja < 5) (l5 : jb < 5) (l6 : jc < 5) (l7 : jd < 5) (l8 : je < 5)
  (g1 : pool0[iu]? = some u) (g2 : pool0[iv]? = some v) (g3 : pool0[iw]? = some w) (g4 : leafL[ja]? = some a) (g5 : leafL[jb]? = some b) (g6 : leafL[jc]? = some c) (g7 : leafL[jd]? = some d) (g8 : leafL[je]? = some e)
  (la : a.l.length ≤ 2) (lb : b.l.length ≤ 2) (lc : c.l.length ≤ 2) (ld : d.l.length ≤ 2) :
  exSs G (CF (n + 2)) b32a [Iv a0, Iv a1, Iv a2, Iv a3, Iv a4, Iv a5, Iv a6, Iv a7, none, none, none, none, none, none, none, none, none, none, none, none, none, none, none, none, none, none, none, none, none, none, none, none, none, none, none, none, none, none] σ =
  .next [Iv a0, Iv a1, Iv a2, Iv a3, Iv a4, Iv a5, Iv a6, Iv a7, Dv (.list (pool0.map eVr)), Dv (eVr u), Dv (eVr v), Dv (eVr w), Dv (eLf a), Dv (eLf b), Dv (eLf c), Dv (eLf d), Dv (eLf e), Dv (eLf ⟨bodyT c d, c.l ++ d.l⟩), Dv (eTm (lamV u (bodyT a b))), Dv (.list ((a.l ++ b.l).map eVr)), none, none, none, none, none, none, none, none, none, none, none, none, none, none, none, none, none, none] σ := by
 have q1 := idx_listE eVr pool0 iu g1 (by exact Bd.ll l1 rfl)
 have q2 := idx_listE eVr pool0 iv g2 (by exact Bd.ll l2 rfl)
 have q3 := idx_listE eVr pool0 iw g3 (by exact Bd.ll l3 rfl)
 have e1 : pool0.map eVr = [eVr vx, eVr vy, eVr vp] := rfl
 rw [e1] at q1 q2 q3 ⊢
 have c1 := call_law_leaf n σ a0 ja a h4 l4 g4
 have c2 := call_law_leaf n σ a1 jb b h5 l5 g5
 have c3 := call_law_leaf n σ a5 jc c h6 l6 g6
 have c4 := call_law_leaf n σ a6 jd d h7 l7 g7
 have c5 := call_law_leaf n σ a7 je e h8 l8 g8
 have i0 (a : Lf) : idxOp (eLf a) (.int 0) = some (eTm a.tm) := rfl
 have i1 (a : Lf) : idxOp (eLf a) (.int 1) = some (.list (a.l.map eVr)) := rfl
 have k1 := call_law_eq (n + 1) σ .bool c.tm d.tm
 have k2 := call_law_eq (n + 1) σ .bool a.tm b.tm
 have b1 : binOp .add (.list (c.l.map eVr)) (.list (d.l.map eVr)) = some (.list ((c.l ++ d.l).map eVr)) := by rw [bin_small (by simp; exact Bd.sm lc ld rfl)]; simp
 have b2 : binOp .add (.list (a.l.map eVr)) (.list (b.l.map eVr)) = some (.list ((a.l ++ b.l).map eVr)) := by rw [bin_small (by simp; exact Bd.sm la lb rfl)]; simp
 simp only [EV, b32a, G1, G5, G6, G7, mod_int _ 3 (by decide), mod_int _ 2 (by decide), add_int, h1, h2, h3, q1, q2, q3, c1, c2, c3, c4, c5, i0, i1, k1, k2, b1, b2]
 rfl
theorem ord_len (u : Vr) : ∀ (l o : List Vr), (l.foldl (stepO u) o).length ≤ o.length + l.length
 | [], o => by simp
 | r :: l, o => by
  rw [List.foldl_cons]
  refine Nat.le_trans (ord_len u l _) ?_
  unfold stepO
  split <;> simp <;> lia
theorem ord_fst (u : Vr) : ∀ (l : List Vr) (st : List Vr × Option V), (l.foldl (fun (st : List Vr × Option V) r => (stepO u st.1 r, some (V.d (eVr r)))) st).1 = l.foldl (stepO u) st.1
 | [], st => rfl
 | r :: l, st => by rw [List.foldl_cons, List.foldl_cons, ord_fst u l]
theorem putting_b (n : Nat) (hn : 100 ≤ n) (x0 x1 x2 x3 x4 x5 x6 x7 x8 x10 x11 x12 x13 x14 x15 x16 x17 : Option V) (σ : Store) (u : Vr) (a b : Lf) (Fa : LfF a) (Fb : LfF b) (hu : PlF u) (hL : (lamV u (bodyT a b)).dp ≤ 7 ∧ (lamV u (bodyT a b)).sz ≤ 5) :
  ∃ y, exSs G (CF n) b32b [x0, x1, x2, x3, x4, x5, x6, x7, x8, Dv (eVr u), x10, x11, x12, x13, x14, x15, x16, x17, Dv (eTm (lamV u (bodyT a b))), Dv (.list ((a.l ++ b.l).map eVr)), none, none, none, none, none, none, none, none, none, none, none, none, none, none, none, none, none, none] σ =
  .next [x0, x1, x2, x3, x4, x5, x6, x7, x8, Dv (eVr u), x10, x11, x12, x13, x14, x15, x16, x17, Dv (eTm (lamV u (bodyT a b))), Dv (.list ((a.l ++ b.l).map eVr)), some (.loc σ.length), y, none, none, none, none, none, none, none, none, none, none, none, none, none, none, none, none] (σ ++ [.lst ((ordL u (a.l ++ b.l)).map eVr)]) := by
 have hud : u.t.dp ≤ 60 := by rw [hu.1]; simp [Z150, Z151, Z152, Z153]
 have hfold := for_fold (body := exSs G (CF n) [.ite (.and [(.cmp .ne (.var 21) (.var 9)), (.cmp .nmem (.var 21) (.var 20))]) [.app 20 (.var 21)] []]) (t := .var 21) eVr
  (fun st : List Vr × Option V => [x0, x1, x2, x3, x4, x5, x6, x7, x8, Dv (eVr u), x10, x11, x12, x13, x14, x15, x16, x17, Dv (eTm (lamV u (bodyT a b))), Dv (.list ((a.l ++ b.l).map eVr)), some (.loc σ.length), st.2, none, none, none, none, none, none, none, none, none, none, none, none, none, none, none, none]) (fun st => σ ++ [.lst (st.1.map eVr)]) (fun st r => (stepO u st.1 r, Dv (eVr r)))
  (fun st r => (∀ q ∈ r, q.t.dp = 0) ∧ st.1.length + r.length ≤ 100) (pv := .d (.list ((a.l ++ b.l).map eVr))) (items := a.l ++ b.l) (a := ([], none)) (.list _) (fun k all _ h => by cases h) (by
   rintro ⟨o, w⟩ r l ⟨h1, h2⟩
   have h3 := h1 r List.mem_cons_self
   simp only [List.length_cons] at h2
   refine ⟨[x0, x1, x2, x3, x4, x5, x6, x7, x8, Dv (eVr u), x10, x11, x12, x13, x14, x15, x16, x17, Dv (eTm (lamV u (bodyT a b))), Dv (.list ((a.l ++ b.l).map eVr)), some (.loc σ.length), Dv (eVr r), none, none, none, none, none, none, none, none, none, none, none, none, none, none, none, none], by simp only [EV, k1_ok], ?_, fun q hq => h1 q (List.mem_cons_of_mem _ hq), ?_⟩
   ·have c1 := cmp_vr_ne r u hud
    have c2 := nmem_vr' r o (by exact Bd.z0 h3)
    unfold stepO
    cases k1 : r.eq u with
    | true =>
     rw [k1] at c1
     simp only [EV, c1, Bool.false_and, Bool.false_eq_true, if_false]
    | false =>
     rw [k1] at c1
     cases k2 : memv r o with
     | true =>
      rw [k2] at c2
      simp only [EV, c1, c2, oq_dl _ _ (get_last σ _), Bool.and_false, Bool.true_and, Bool.false_eq_true, if_false]
     | false =>
      rw [k2] at c2
      simp only [EV, c1, c2, oq_dl _ _ (get_last σ _), Bool.and_false, Bool.true_and, if_true]
      rw [s_app _ rfl (get_last σ _)]
      simp only [EV, appK_is _ (get_last σ _) (show (o.map eVr).length ≤ lim by simp [lim]; lia), set_last, List.map_append, List.map_cons, List.map_nil]
   ·dsimp only at h2 ⊢
    unfold stepO
    split <;> (try simp) <;> lia) (by
   refine ⟨fun q hq => ?_, ?_⟩
   ·rcases List.mem_append.mp hq with h | h
    ·exact Fa.nt q h
    ·exact Fb.nt q h
   ·have := Fa.ll; have := Fb.ll; simp; with_reducible exact Bd.sm ‹_› this rfl)
 refine ⟨((a.l ++ b.l).foldl (fun (st : List Vr × Option V) r => (stepO u st.1 r, some (V.d (eVr r)))) ([], none)).2, ?_⟩
 simp only [b32b, ss_cons, s_newl, e_nil, kts_ok]
 rw [newlK_is 20 _ [] [] σ (by simp) rfl]
 have c3 := call_free (lamV u (bodyT a b)) n (σ ++ [.lst ((ordL u (a.l ++ b.l)).map eVr)]) (by have := hL.1; exact Bd.wkn this hn rfl) (by have := hL.1; exact Bd.wk this rfl) (by have := hL.2; exact Bd.wk this rfl)
 rw [free_lam Fa Fb] at c3
 have hlo : ∀ q ∈ ordL u (a.l ++ b.l), (eVr q).depth ≤ 100 := by
  intro q hq
  rw [← free_lam Fa Fb] at hq
  have h2 := free_dp (lamV u (bodyT a b)) [] [] 7 hL.1 (fun v hv => by cases hv) q hq
  have := eVr_depth q
  exact Bd.t1 this h2 rfl
 have hne : cmpD .ne (.list ((ordL u (a.l ++ b.l)).map eVr)) (.list ((ordL u (a.l ++ b.l)).map eVr)) = some (.bool false) := by
  refine ne_self ?_ ?_
  ·simp only [Z154, Z155, Z156, Z157, Z158, Z159, Z160]; exact pln_all (enc := eVr) (fun v => pln_tm v.tm) _
  ·have := depth_all (enc := eVr) (D := 100) (ordL u (a.l ++ b.l)) hlo
   simp only [PyData.depth]; exact Bd.wkc this rfl
 have hfst := ord_fst u (a.l ++ b.l) ([], none)
 simp only [EV, s_fors]
 simp only [List.map_nil] at hfold
 rw [hfold]
 rw [hfst]
 rw [show (a.l ++ b.l).foldl (stepO u) ([], (none : Option V)).1 = ordL u (a.l ++ b.l) from rfl]
 simp only [EV, c3, oq_dl _ _ (get_last σ _), hne]
theorem putting_c (n : Nat) (x0 x1 x2 x3 x4 x5 x6 x7 x8 x9 x12 x13 x14 x15 x18 x19 : Option V) (y : Option V) (σ : Store) (u v w : Vr) (a b c d e : Lf) (Fc : LfF c) (Fd : LfF d) (Fe : LfF e) (hv : PlF v) (hw : PlF w) :
  exSs G (CF n) b32c [x0, x1, x2, x3, x4, x5, x6, x7, x8, x9, Dv (eVr v), Dv (eVr w), x12, x13, x14, x15, Dv (eLf e), Dv (eLf ⟨bodyT c d, c.l ++ d.l⟩), x18, x19, some (.loc σ.length), y, none, none, none, none, none, none, none, none, none, none, none, none, none, none, none, none] (σ ++ [.lst ((ordL u (a.l ++ b.l)).map eVr)]) =
  .next [x0, x1, x2, x3, x4, x5, x6, x7, x8, x9, Dv (eVr v), Dv (eVr w), x12, x13, x14, x15, Dv (eLf e), Dv (eLf ⟨bodyT c d, c.l ++ d.l⟩), x18, x19, some (.loc σ.length), Dv (eVr w), some (.d (.list ((arL v w (c.l ++ d.l) e.l (ordL u (a.l ++ b.l))).map eVr))), Dv (eLf e), none, none, none, none, none, none, none, none, none, none, none, none, none, none] (σ ++ [.lst ((ordL u (a.l ++ b.l)).map eVr)]) := by
 obtain ⟨ord, ho⟩ : ∃ ord, ord = ordL u (a.l ++ b.l) := ⟨_, rfl⟩
 rw [← ho]
 have hfold := for_fold (body := exSs G (CF n) [.ite (.cmp .mem (.var 21) (.var 20)) [.assign (.var 22) (.bin .add (.var 22) (Qx 23 1))] []]) (t := .tup [(.var 21), (.var 23)]) (fun p : Vr × Lf => .tuple [eVr p.1, eLf p.2])
  (fun st : List Vr × Option V × Option V => [x0, x1, x2, x3, x4, x5, x6, x7, x8, x9, Dv (eVr v), Dv (eVr w), x12, x13, x14, x15, Dv (eLf e), Dv (eLf ⟨bodyT c d, c.l ++ d.l⟩), x18, x19, some (.loc σ.length), st.2.1, Dv (.list (st.1.map eVr)), st.2.2, none, none, none, none, none, none, none, none, none, none, none, none, none, none]) (fun st => σ ++ [.lst (ord.map eVr)]) (fun st p => (if memv p.1 ord then st.1 ++ p.2.l else st.1, Dv (eVr p.1), Dv (eLf p.2)))
  (fun st r => (∀ q ∈ r, q.1.t.dp ≤ 900 ∧ q.2.l.length ≤ 4) ∧ st.1.length + 4 * r.length ≤ 100) (pv := .d (.tuple [.tuple [eVr v, eLf ⟨bodyT c d, c.l ++ d.l⟩], .tuple [eVr w, eLf e]])) (items := [(v, ⟨bodyT c d, c.l ++ d.l⟩), (w, e)]) (a := ([], y, none)) (.tuple _) (fun k all _ h => by cases h) (by
   rintro ⟨l, y1, y2⟩ ⟨r, t⟩ rr ⟨h1, h2⟩
   obtain ⟨h3, h4⟩ := h1 (r, t) List.mem_cons_self
   dsimp only at h2 h3 h4
   simp only [List.length_cons] at h2
   refine ⟨[x0, x1, x2, x3, x4, x5, x6, x7, x8, x9, Dv (eVr v), Dv (eVr w), x12, x13, x14, x15, Dv (eLf e), Dv (eLf ⟨bodyT c d, c.l ++ d.l⟩), x18, x19, some (.loc σ.length), Dv (eVr r), Dv (.list (l.map eVr)), Dv (eLf t), none, none, none, none, none, none, none, none, none, none, none, none, none, none], by simp only [EV, k1_ok], ?_, fun q hq => h1 q (List.mem_cons_of_mem _ hq), ?_⟩
   ·have c2 := mem_vr' r ord h3
    have i1 : idxOp (eLf t) (.int 1) = some (.list (t.l.map eVr)) := rfl
    have b2 : binOp .add (.list (l.map eVr)) (.list (t.l.map eVr)) = some (.list ((l ++ t.l).map eVr)) := by rw [bin_small (by simp; exact Bd.cy h2 h4 rfl)]; simp
    cases k2 : memv r ord with
    | true =>
     rw [k2] at c2
     simp only [EV, c2, oq_dl _ _ (get_last σ _), if_true, i1, b2]
    | false =>
     rw [k2] at c2
     simp only [EV, c2, oq_dl _ _ (get_last σ _), Bool.false_eq_true, if_false]
   ·dsimp only
    split
    ·simp; exact Bd.cw h2 h4
    ·lia) (by
   have := Fc.ll; have := Fd.ll; have := Fe.ll
   refine ⟨fun q hq => ?_, by simp⟩
   simp at hq
   rcases hq with rfl | rfl
   ·exact ⟨by rw [hv.1]; simp [Z150, Z151, Z152, Z153], by simp; with_reducible exact Bd.sm ‹_› ‹_› rfl⟩
   ·exact ⟨by rw [hw.1]; simp [Z150, Z151, Z152, Z153], by show e.l.length ≤ 4; exact Bd.wk this rfl⟩)
 simp only [EV, b32c, s_fors]
 simp only [List.map_nil] at hfold
 rw [hfold]
 simp only [EV, List.foldl_cons, List.foldl_nil, arL, List.nil_append]
 cases memv v ord <;> cases memv w ord <;> simp only [Bool.false_eq_true, if_false, if_true, List.append_nil, List.nil_append]
noncomputable def newVr (u : Vr) (ins ar : List Vr) : Vr := ⟨u.x, newV u ins ar, u.t⟩
theorem names_comp' (n : Nat) (it : E) (l : List Vr) (fr : Frame) (σ : Store) (hfr : fr.length = 38) (hl : l.length ≤ 100000) (hit : evE G (CF n) it fr σ = .ok (.d (.list (l.map eVr))) σ) :
  evE G (CF n) (.comp 2 (Qx 39 1) (.var 39) it []) fr σ = .ok (.d (.list ((l.map nxOf).map eNx))) σ := by
 rw [e_comp, hit, k1_ok]
 have h13 : (fr ++ List.replicate 2 (none : Option V)).length = 40 := by simp [hfr]
 rw [compK_is (n := 2) eVr (fun v => some (eNx (nxOf v))) (items := l) rfl (by simp only [lim]; exact Bd.wk hl rfl)]
 ·congr 3
  induction l with
  | nil => rfl
  | cons a l ih => simp
 ·intro v _
  rw [asg_var _ _ _ (by rw [h13]; decide)]
  have hg : ((fr ++ List.replicate 2 none).set 39 (some (V.d (eVr v))))[39]? = some (Dv (eVr v)) := by
   rw [List.getElem?_set_self (by rw [h13]; decide)]
  simp only [Res.of_some, Res.bind_ok, a_nil, asBool, if_true, e_idx, e_var, hg, varK_some, k2_ok, e_con, k1_ok, oq_dd, idx_vr1, okD_some]
theorem nmem_nx (x : Bs) (k : Nat) (l : List Nx) : cmpD .nmem (.str (nm x k)) (.list (l.map eNx)) = some (.bool (!memn x k l)) := by
 refine cmpD_is _ _ _ ?_
 show (memOp (.str (nm x k)) (.list (l.map eNx))).map (!·) = _
 rw [mem_lst, if_pos (.inl (by simp [PyData.depth])), any_nx]; rfl
noncomputable def mark : Nat → Str
 | 1 => st 9
 | _ => st 27
theorem nm_mark1 (x : Bs) (k : Nat) : nm x k ++ st 9 = nm x (k + 1) := rfl
theorem nm_mark2 (x : Bs) (k : Nat) : nm x k ++ st 27 = nm x (k + 2) := by
 have h : st 27 = st 9 ++ st 9 := by decide
 show nm x k ++ st 27 = (nm x k ++ st 9) ++ st 9
 rw [h]
 show (⟨(nm x k).cps ++ ((st 9).cps ++ (st 9).cps)⟩ : Str) = ⟨((nm x k).cps ++ (st 9).cps) ++ (st 9).cps⟩
 rw [Array.append_assoc]
theorem add_mark (x : Bs) (k j : Nat) (hk : k ≤ 10) (hj : j = 1 ∨ j = 2) : binOp .add (.str (nm x k)) (.str (mark j)) = some (.str (nm x (k + j))) := by
 have h1 : (st 9).length = 1 := by decide
 have h2 : (st 27).length = 2 := by decide
 rcases hj with rfl | rfl
 ·rw [add_str (by rw [nm_len]; simp only [mark, lim, h1]; lia)]; rfl
 ·rw [add_str (by rw [nm_len]; simp only [mark, lim, h2]; lia)]
  exact congrArg (fun s => some (PyData.str s)) (nm_mark2 x k)
theorem fits_comp (n : Nat) (fr : Frame) (σ : Store) (u : Vr) (nx : List Nx) (hk : u.k ≤ 1) (hfr : fr.length = 38) (h9 : fr[9]? = some (Dv (eVr u))) (h25 : fr[25]? = some (Dv (.list (nx.map eNx)))) :
  evE G (CF n) (.comp 4 (.bin .add (Qx 9 1) (.var 39)) (.var 39) (.tup [(Qs 9), (Qs 27)]) [(.cmp .nmem (.bin .add (Qx 9 1) (.var 39)) (.var 25))]) fr σ =
  .ok (.d (.list ([1, 2].filterMap fun j => if memn u.x (u.k + j) nx then none else some (.str (nm u.x (u.k + j)))))) σ := by
 simp only [EV, e_comp]
 have h13 : (fr ++ List.replicate 4 (none : Option V)).length = 42 := by simp [hfr]
 refine compK_is (n := 4) (fun j => .str (mark j)) (fun j => if memn u.x (u.k + j) nx then none else some (.str (nm u.x (u.k + j)))) (items := [1, 2]) rfl (by simp [lim]) ?_
 intro j hj
 have hj : j = 1 ∨ j = 2 := by simpa using hj
 rw [asg_var _ _ _ (by rw [h13]; decide)]
 have hg : ((fr ++ List.replicate 4 none).set 39 (some (V.d (.str (mark j)))))[39]? = some (Dv (.str (mark j))) := by
  rw [List.getElem?_set_self (by rw [h13]; decide)]
 have hg9 : ((fr ++ List.replicate 4 none).set 39 (some (V.d (.str (mark j)))))[9]? = some (Dv (eVr u)) := by
  rw [List.getElem?_set_ne (by decide), List.getElem?_append_left (by lia), h9]
 have hg25 : ((fr ++ List.replicate 4 none).set 39 (some (V.d (.str (mark j)))))[25]? = some (Dv (.list (nx.map eNx))) := by
  rw [List.getElem?_set_ne (by decide), List.getElem?_append_left (by lia), h25]
 have hm := nmem_nx u.x (u.k + j) nx
 have ha := add_mark u.x u.k j (by exact Bd.wk hk rfl) hj
 have hi : idxOp (eVr u) (.int 1) = some (.str (nm u.x u.k)) := rfl
 cases hq : memn u.x (u.k + j) nx with
 | true =>
  rw [hq] at hm
  simp only [EV, hg, hg9, hg25, hi, ha, hm, asBool, Bool.false_eq_true, if_false, if_true]
 | false =>
  rw [hq] at hm
  simp only [EV, hg, hg9, hg25, hi, ha, hm, asBool, Bool.false_eq_true, if_false, if_true]
theorem putting_d (n : Nat) (x0 x1 x2 x3 x4 x5 x6 x7 x8 x10 x11 x12 x13 x14 x15 x16 x17 x18 : Option V) (y z1 z3 : Option V) (σ : Store) (u : Vr) (ins ar : List Vr) (hu : PlF u) (hl : ins.length + ar.length ≤ 100) (hb : memn u.x (u.k + 2) ((ins ++ ar).map nxOf) = false) :
  ∃ y5 y6, exSs G (CF n) b32d [x0, x1, x2, x3, x4, x5, x6, x7, x8, Dv (eVr u), x10, x11, x12, x13, x14, x15, x16, x17, x18, Dv (.list (ins.map eVr)), y, z1, Dv (.list (ar.map eVr)), z3, none, none, none, none, none, none, none, none, none, none, none, none, none, none] σ =
  .next [x0, x1, x2, x3, x4, x5, x6, x7, x8, Dv (eVr u), x10, x11, x12, x13, x14, x15, x16, x17, x18, Dv (.list (ins.map eVr)), y, z1, Dv (.list (ar.map eVr)), z3, Dv (eVr (newVr u ins ar)), y5, y6, none, none, none, none, none, none, none, none, none, none, none] σ := by
 have c1 := mem_vr' u ar (by rw [hu.1]; simp [Z150, Z151, Z152, Z153])
 cases hm : memv u ar with
 | false =>
  rw [hm] at c1
  have e1 : newVr u ins ar = u := by unfold newVr newV; rw [hm]; rfl
  rw [e1]
  exact ⟨none, none, by simp only [EV, b32d, c1]⟩
 | true =>
  rw [hm] at c1
  have b1 : binOp .add (.list (ins.map eVr)) (.list (ar.map eVr)) = some (.list ((ins ++ ar).map eVr)) := by rw [bin_small (by simp; exact Bd.wk hl rfl)]; simp
  have hN := names_comp' n (.bin .add (.var 19) (.var 22)) (ins ++ ar) [x0, x1, x2, x3, x4, x5, x6, x7, x8, Dv (eVr u), x10, x11, x12, x13, x14, x15, x16, x17, x18, Dv (.list (ins.map eVr)), y, z1, Dv (.list (ar.map eVr)), z3, Dv (eVr u), none, none, none, none, none, none, none, none, none, none, none, none, none] σ rfl (by simp; exact Bd.wk hl rfl) (by simp only [EV, b1])
  have hF := fits_comp n [x0, x1, x2, x3, x4, x5, x6, x7, x8, Dv (eVr u), x10, x11, x12, x13, x14, x15, x16, x17, x18, Dv (.list (ins.map eVr)), y, z1, Dv (.list (ar.map eVr)), z3, Dv (eVr u), some (.d (.list (((ins ++ ar).map nxOf).map eNx))), none, none, none, none, none, none, none, none, none, none, none, none] σ u ((ins ++ ar).map nxOf) hu.2 rfl rfl rfl
  refine ⟨some (.d (.list (((ins ++ ar).map nxOf).map eNx))), some (.d (.list ([1, 2].filterMap fun j => if memn u.x (u.k + j) ((ins ++ ar).map nxOf) then none else some (.str (nm u.x (u.k + j)))))), ?_⟩
  have hi : idxOp (.list ([1, 2].filterMap fun j => if memn u.x (u.k + j) ((ins ++ ar).map nxOf) then none else some (.str (nm u.x (u.k + j))))) (.int 0) = some (.str (nm u.x (newV u ins ar))) := by
   unfold newV
   rw [hm]
   simp only [List.filterMap_cons, List.filterMap_nil, hb, if_true]
   cases memn u.x (u.k + 1) ((ins ++ ar).map nxOf) <;> rfl
  have e1 : eVr (newVr u ins ar) = .tuple [.str (st 3), .str (nm u.x (newV u ins ar)), eTy .bool] := by
   show PyData.tuple [.str (st 3), .str (nm u.x (newV u ins ar)), eTy u.t] = _
   rw [hu.1]
  rw [e1]
  generalize ([1, 2].filterMap fun j => if memn u.x (u.k + j) ((ins ++ ar).map nxOf) then none else some (PyData.str (nm u.x (u.k + j)))) = FI at hF hi ⊢
  generalize ((ins ++ ar).map nxOf).map eNx = NA at hN hF ⊢
  simp only [] at hN hF
  simp only [EV, b32d, c1, hN, hF, hi, G1]
theorem putting_e (n : Nat) (hn : 100 ≤ n) (x0 x1 x2 x3 x4 x5 x6 x7 x8 x14 x15 x19 : Option V) (y0 y1 y2 y3 y5 y6 : Option V) (σ : Store) (u v w nw : Vr) (a b c d e : Lf) (Fa : LfF a) (Fb : LfF b) (hu : PlF u) (hv : PlF v) (hw : PlF w) (P : P0 v w (bodyT c d) e.tm (lamV u (bodyT a b)))
  (hnw : nw = ⟨u.x, newK u (bodyT a b) [(v, bodyT c d), (w, e.tm)], u.t⟩) :
  exSs G (CF n) b32e [x0, x1, x2, x3, x4, x5, x6, x7, x8, Dv (eVr u), Dv (eVr v), Dv (eVr w), Dv (eLf a), Dv (eLf b), x14, x15, Dv (eLf e), Dv (eLf ⟨bodyT c d, c.l ++ d.l⟩), Dv (eTm (lamV u (bodyT a b))), x19, y0, y1, y2, y3, Dv (eVr nw), y5, y6, none, none, none, none, none, none, none, none, none, none, none] σ =
  .next [x0, x1, x2, x3, x4, x5, x6, x7, x8, Dv (eVr u), Dv (eVr v), Dv (eVr w), Dv (eLf a), Dv (eLf b), x14, x15, Dv (eLf e), Dv (eLf ⟨bodyT c d, c.l ++ d.l⟩), Dv (eTm (lamV u (bodyT a b))), x19, y0, y1, y2, y3, Dv (eVr nw), y5, y6, some (.d (.list (([(u, nw.tm), (v, bodyT c d), (w, e.tm)] : List Pr).map ePr))), some (.d (eTm (put (lamV u (bodyT a b)) [(v, bodyT c d), (w, e.tm)]))), none, none, none, none, none, none, none, none, none] σ := by
 obtain ⟨m, rfl⟩ : ∃ m, n = m + 1 := ⟨n - 1, by exact Bd.pr1 hn⟩
 have hd : ∀ p ∈ [(v, bodyT c d), (w, e.tm)], p.2.dp ≤ 7 ∧ p.1.t.dp ≤ 7 ∧ p.2.sz ≤ 100 ∧ p.2.pk ≤ 7 := by
  intro p hp
  simp at hp
  have h1 := P.ds; have h2 := P.dt
  have := h1.dp; have := h1.sz; have := h1.pk; have := h2.dp; have := h2.sz; have := h2.pk
  rcases hp with rfl | rfl
  ·exact ⟨by show (bodyT c d).dp ≤ 7; with_reducible exact Bd.wk ‹_› rfl, by show v.t.dp ≤ 7; rw [hv.1]; simp [Z150, Z151, Z152, Z153], by show (bodyT c d).sz ≤ 100; with_reducible exact Bd.wk ‹_› rfl, by show (bodyT c d).pk ≤ 7; with_reducible exact Bd.wk ‹_› rfl⟩
  ·exact ⟨by show e.tm.dp ≤ 7; with_reducible exact Bd.wk ‹_› rfl, by show w.t.dp ≤ 7; rw [hw.1]; simp [Z150, Z151, Z152, Z153], by show e.tm.sz ≤ 100; with_reducible exact Bd.wk ‹_› rfl, by show e.tm.pk ≤ 7; exact Bd.wk this rfl⟩
 have dL := P.dL
 have d1 := dL.dp; have d2 := dL.sz; have d3 := dL.pk
 have hpi := call_put_in 7 (m + 1) σ [(v, bodyT c d), (w, e.tm)] (lamV u (bodyT a b)) 7 ⟨d1, by lia, by exact Bd.wkd d1 hn rfl, by exact Bd.wk d2 rfl, hd, by simp only [List.length_cons, List.length_nil]; lia, d3, by lia⟩ (by exact Bd.wkd d1 hn rfl) (.tuple [.tuple [eVr v, eTm (bodyT c d)], .tuple [eVr w, eTm e.tm]]) rfl
 have hfit : [(v, bodyT c d), (w, e.tm)].all fitsP = true := by
  simp only [List.all_cons, List.all_nil, fitsP, P.ts, P.tt, hv.1, hw.1]; rfl
 rw [putIn, if_pos hfit] at hpi
 simp only [ofTm] at hpi
 have hdir := direct_is Fa Fb u hu [(v, bodyT c d), (w, e.tm)] (fun p hp => by simp at hp; rcases hp with rfl | rfl; exact hv.1; exact hw.1)
 have s1 := call_law_swap m σ a.tm [(u, nw.tm), (v, bodyT c d), (w, e.tm)] (by have := Fa.dp; exact Bd.wk this rfl)
 have s2 := call_law_swap m σ b.tm [(u, nw.tm), (v, bodyT c d), (w, e.tm)] (by have := Fb.dp; exact Bd.wk this rfl)
 have e0 : ([(u, nw.tm), (v, bodyT c d), (w, e.tm)] : List Pr).map ePr = [.tuple [eVr u, eVr nw], .tuple [eVr v, eTm (bodyT c d)], .tuple [eVr w, eTm e.tm]] := rfl
 rw [e0] at s1 s2 ⊢
 have k1 := call_law_eq m σ .bool (swapT a.tm [(u, nw.tm), (v, bodyT c d), (w, e.tm)]) (swapT b.tm [(u, nw.tm), (v, bodyT c d), (w, e.tm)])
 have e1 : .tuple [.str (st 6), eVr nw, eTm (eqT .bool (swapT a.tm [(u, nw.tm), (v, bodyT c d), (w, e.tm)]) (swapT b.tm [(u, nw.tm), (v, bodyT c d), (w, e.tm)]))] = eTm (put (lamV u (bodyT a b)) [(v, bodyT c d), (w, e.tm)]) := by
  rw [hdir, hnw]; rfl
 have dd := put_dp 7 (lamV u (bodyT a b)) [(v, bodyT c d), (w, e.tm)] d1 fun p hp => (hd p hp).1
 have hne : cmpD .ne (eTm (put (lamV u (bodyT a b)) [(v, bodyT c d), (w, e.tm)])) (eTm (put (lamV u (bodyT a b)) [(v, bodyT c d), (w, e.tm)])) = some (.bool false) := by
  refine ne_self (pln_tm _) ?_
  have := depth_tm (put (lamV u (bodyT a b)) [(v, bodyT c d), (w, e.tm)])
  lia
 have i0 (a : Lf) : idxOp (eLf a) (.int 0) = some (eTm a.tm) := rfl
 simp only [EV, b32e, i0, hpi, G1, s1, s2, k1, e1, hne]
theorem putting_f (n : Nat) (hn : 100 ≤ n) (x0 x1 x2 x3 x4 x5 x6 x7 x8 x9 x12 x13 x14 x15 x19 x20 x21 x22 x23 x24 x25 x26 x27 : Option V) (σ : Store) (v w : Vr) (s e : Lf) (L : Tm) (P : P0 v w s.tm e.tm L) :
  exSs G (CF n) b32f [x0, x1, x2, x3, x4, x5, x6, x7, x8, x9, Dv (eVr v), Dv (eVr w), x12, x13, x14, x15, Dv (eLf e), Dv (eLf s), Dv (eTm L), x19, x20, x21, x22, x23, x24, x25, x26, x27, Dv (eTm (put L [(v, s.tm), (w, e.tm)])), none, none, none, none, none, none, none, none, none] σ =
  .next [x0, x1, x2, x3, x4, x5, x6, x7, x8, x9, Dv (eVr v), Dv (eVr w), x12, x13, x14, x15, Dv (eLf e), Dv (eLf s), Dv (eTm L), x19, x20, x21, x22, x23, x24, x25, x26, x27, Dv (eTm (put L [(v, s.tm), (w, e.tm)])), Dv (eTm (lamV w L)), Dv (eTm (lamV v (lamV w L))), Dv (eTm (halfT v w s.tm L)), Dv (eTm (endT v w s.tm e.tm L)), none, none, none, none, none] σ := by
 have d1 := P.dL.dp; have d2 := P.dL.sz; have d3 := P.dL.pk; have kw := P.kw
 have s1 := P.ds.dp; have s2 := P.ds.sz; have s3 := P.ds.pk
 have t1 := P.dt.dp; have t2 := P.dt.sz; have t3 := P.dt.pk
 obtain ⟨b1, b2, b3, b4⟩ := P.hbDm
 obtain ⟨n1, n2, n3, n4⟩ := P.enDm
 have hvd : v.t.dp = 0 := by rw [P.tv]; rfl
 have hwd : w.t.dp = 0 := by rw [P.tw]; rfl
 have o1 : (lamV w L).dp ≤ 8 := by simp only [lamV, Z114, Z115, Z116, Z117]; (apply Bd.sc; (apply Bd.mx <;> (first | exact d1 | exact Bd.z0 hwd)))
 have o2 : (lamV w L).sz ≤ 5 := by simp only [lamV, Z130, Z131, Z132, Z133]; exact d2
 have o3 : (lamV w L).pk ≤ 8 := by simp only [lamV, Z122, Z123, Z124, Z125]; (apply Bd.mx <;> (first | exact Bd.wk kw rfl | exact Bd.wk d3 rfl))
 have hp := call_put_in 8 n σ [(v, s.tm)] (lamV w L) 8 ⟨o1, by lia, by exact Bd.wkd o1 hn rfl, by exact Bd.wk o2 rfl, fun p hp => by simp at hp; subst hp; dsimp only; (apply And.intro <;> (first | exact Bd.wk s1 rfl | (with_reducible apply And.intro <;> (first | exact Bd.z0 hvd | (with_reducible apply And.intro <;> (first | exact Bd.wk s2 rfl | exact Bd.wk s3 rfl)))))), by simp only [List.length_cons, List.length_nil]; lia, o3, by lia⟩ (by exact Bd.wkd o1 hn rfl) (.tuple [.tuple [eVr v, eTm s.tm]]) rfl
 have f1 : [(v, s.tm)].all fitsP = true := by simp only [List.all_cons, List.all_nil, fitsP, P.ts, P.tv]; rfl
 rw [putIn, if_pos f1, half_is] at hp
 simp only [ofTm] at hp
 have hvt : (hvr v w s.tm L).t.dp = 0 := by rw [P.ht]; rfl
 have hq := call_put_in 14 n σ [(hvr v w s.tm L, e.tm)] (hbd v w s.tm L) 15 ⟨b1, by lia, by exact Bd.wkd b1 hn rfl, by exact Bd.wk b2 rfl, fun p hp => by simp at hp; subst hp; dsimp only; (apply And.intro <;> (first | exact Bd.wk t1 rfl | (with_reducible apply And.intro <;> (first | exact Bd.z0 hvt | (with_reducible apply And.intro <;> (first | exact Bd.wk t2 rfl | exact Bd.wk t3 rfl)))))), by simp only [List.length_cons, List.length_nil]; lia, b4, by lia⟩ (by exact Bd.wkd b1 hn rfl) (.tuple [.tuple [eVr (hvr v w s.tm L), eTm e.tm]]) rfl
 have f2 : [(hvr v w s.tm L, e.tm)].all fitsP = true := by simp only [List.all_cons, List.all_nil, fitsP, P.tt, P.ht]; rfl
 rw [putIn, if_pos f2] at hq
 simp only [ofTm] at hq
 rw [show put (hbd v w s.tm L) [(hvr v w s.tm L, e.tm)] = endT v w s.tm e.tm L from rfl] at hq
 have dd := put_dp 7 L [(v, s.tm), (w, e.tm)] d1 fun p hp => by simp at hp; rcases hp with rfl | rfl <;> dsimp only <;> (first | exact Bd.wk s1 rfl | exact Bd.wk t1 rfl)
 have ca := call_alike (endT v w s.tm e.tm L) (put L [(v, s.tm), (w, e.tm)]) n σ (by exact Bd.wkn n1 hn rfl) (by exact Bd.t3 dd d1 hn rfl) (by exact Bd.wk n1 rfl) (by exact Bd.t1 dd d1 rfl)
 have hal : alike (endT v w s.tm e.tm L) (put L [(v, s.tm), (w, e.tm)]) = true := alike_putting v w s.tm e.tm L 7 P.vw d3 (by exact Bd.wk kw rfl) (by exact Bd.wk s3 rfl) (by exact Bd.wk t3 rfl) (by lia) (by exact Bd.wk s1 rfl) (by exact Bd.wk d1 rfl) (by exact Bd.z0 hwd)
 rw [hal] at ca
 have i0 (a : Lf) : idxOp (eLf a) (.int 0) = some (eTm a.tm) := rfl
 have e1 : eTm (lamV w L) = .tuple [.str (st 6), eVr w, eTm L] := rfl
 have e2 : eTm (lamV v (lamV w L)) = .tuple [.str (st 6), eVr v, eTm (lamV w L)] := rfl
 have j1 : idxOp (eTm (halfT v w s.tm L)) (.int 1) = some (eVr (hvr v w s.tm L)) := rfl
 have j2 : idxOp (eTm (halfT v w s.tm L)) (.int 2) = some (eTm (hbd v w s.tm L)) := rfl
 have hno : cmpD .isNot (.bool true) (.bool true) = some (.bool false) := rfl
 rw [e2]
 rw [e1] at hp ⊢
 simp only [EV, b32f, i0, hp, j1, j2, hq, ca, hno]
theorem putting_g (n : Nat) (x0 x1 x2 x3 x4 x5 x6 x7 x8 x9 x12 x13 x14 x15 x19 x20 x21 x22 x23 x24 x25 x26 x27 : Option V) (σ : Store) (v w : Vr) (s e : Lf) (L : Tm) :
  exSs G (CF (n + 2)) b32g [x0, x1, x2, x3, x4, x5, x6, x7, x8, x9, Dv (eVr v), Dv (eVr w), x12, x13, x14, x15, Dv (eLf e), Dv (eLf s), Dv (eTm L), x19, x20, x21, x22, x23, x24, x25, x26, x27, Dv (eTm (put L [(v, s.tm), (w, e.tm)])), Dv (eTm (lamV w L)), Dv (eTm (lamV v (lamV w L))), Dv (eTm (halfT v w s.tm L)), Dv (eTm (endT v w s.tm e.tm L)), none, none, none, none, none] σ =
  .next [x0, x1, x2, x3, x4, x5, x6, x7, x8, x9, Dv (eVr v), Dv (eVr w), x12, x13, x14, x15, Dv (eLf e), Dv (eLf s), Dv (eTm L), x19, x20, x21, x22, x23, x24, x25, x26, x27, Dv (eTm (put L [(v, s.tm), (w, e.tm)])), Dv (eTm (lamV w L)), Dv (eTm (lamV v (lamV w L))), Dv (eTm (halfT v w s.tm L)), Dv (eTm (endT v w s.tm e.tm L)), Dv (.list ((headS ++ steps0 v w s.tm e.tm L).map eStp)), Dv (.list (headD.map eTh)), none, none, none] σ := by
 have c4 := call_law_head n σ
 have i0 (a : Lf) : idxOp (eLf a) (.int 0) = some (eTm a.tm) := rfl
 have j1 : idxOp (eTm (halfT v w s.tm L)) (.int 1) = some (eVr (hvr v w s.tm L)) := rfl
 have j2 : idxOp (eTm (halfT v w s.tm L)) (.int 2) = some (eTm (hbd v w s.tm L)) := rfl
 have e3 : (headS ++ steps0 v w s.tm e.tm L).map eStp = headS.map eStp ++ [.tuple [.str (st 16), eVr v, eTm (lamV w L)], .tuple [.str (st 17), .tuple [.tuple [eVr v, eTm s.tm]], .int 2], .tuple [.str (st 11), eTm e.tm], .tuple [.str (st 7), .int 3, .int 4]] ++ [.tuple [.str (st 16), eVr (hvr v w s.tm L), eTm (hbd v w s.tm L)], .tuple [.str (st 17), .tuple [.tuple [eVr (hvr v w s.tm L), eTm e.tm]], .int 6], .tuple [.str (st 15), .int 5, .int 7]] := by
  rw [List.map_append, List.append_assoc]; rfl
 rw [e3]
 have hl : (headS.map eStp).length ≤ 10 := by simp [headS]
 generalize headS.map eStp = HS at hl c4 ⊢
 simp only [EV, b32g, c4, i0, j1, j2]
 rw [bin_small (by simp only [List.length_cons, List.length_nil]; exact Bd.wkc hl rfl)]
 simp only [EV, i0, j1, j2]
 rw [bin_small (by simp only [List.length_append, List.length_cons, List.length_nil]; lia)]
 simp only [EV, k1_ok]
theorem putting_h (n : Nat) (x0 x1 x2 x3 x4 x5 x6 x7 x8 x9 x12 x13 x14 x15 x19 x20 x21 x22 x23 x24 x25 x26 x27 : Option V) (σ : Store) (v w : Vr) (s e : Lf) (L : Tm) (SS : PyData) (DD : PyData) :
  exSs G (CF (n + 1)) b32h [x0, x1, x2, x3, x4, x5, x6, x7, x8, x9, Dv (eVr v), Dv (eVr w), x12, x13, x14, x15, Dv (eLf e), Dv (eLf s), Dv (eTm L), x19, x20, x21, x22, x23, x24, x25, x26, x27, Dv (eTm (put L [(v, s.tm), (w, e.tm)])), Dv (eTm (lamV w L)), Dv (eTm (lamV v (lamV w L))), Dv (eTm (halfT v w s.tm L)), Dv (eTm (endT v w s.tm e.tm L)), Dv SS, Dv DD, none, none, none] σ =
  .next [x0, x1, x2, x3, x4, x5, x6, x7, x8, x9, Dv (eVr v), Dv (eVr w), x12, x13, x14, x15, Dv (eLf e), Dv (eLf s), Dv (eTm L), x19, x20, x21, x22, x23, x24, x25, x26, x27, Dv (eTm (put L [(v, s.tm), (w, e.tm)])), Dv (eTm (lamV w L)), Dv (eTm (lamV v (lamV w L))), Dv (eTm (halfT v w s.tm L)), Dv (eTm (endT v w s.tm e.tm L)), Dv SS, Dv DD, Dv (eTm (onceT v w s.tm L)), Dv (eTm (fullT v w s.tm e.tm L)), Dv (.list ((rows0 v w s.tm e.tm L).map eTm))] σ := by
 have c1 := call_law_eq n σ bbb (.app (lamV v (lamV w L)) v.tm) (lamV w L)
 have c2 := call_law_eq n σ bbb (onceT v w s.tm L) (halfT v w s.tm L)
 have c3 := call_law_eq n σ .bool e.tm e.tm
 have c4 := call_law_eq n σ bb (fullT v w s.tm e.tm L) (.app (halfT v w s.tm L) e.tm)
 have c5 := call_law_eq n σ bb (.app (halfT v w s.tm L) (hvr v w s.tm L).tm) (hbd v w s.tm L)
 have c6 := call_law_eq n σ bb (.app (halfT v w s.tm L) e.tm) (endT v w s.tm e.tm L)
 have c7 := call_law_eq n σ bb (fullT v w s.tm e.tm L) (endT v w s.tm e.tm L)
 have i0 (a : Lf) : idxOp (eLf a) (.int 0) = some (eTm a.tm) := rfl
 have j1 : idxOp (eTm (halfT v w s.tm L)) (.int 1) = some (eVr (hvr v w s.tm L)) := rfl
 have j2 : idxOp (eTm (halfT v w s.tm L)) (.int 2) = some (eTm (hbd v w s.tm L)) := rfl
 have e1 : eTm (.app (lamV v (lamV w L)) v.tm) = .tuple [.str (st 7), eTm (lamV v (lamV w L)), eVr v] := rfl
 have e2 : eTm (onceT v w s.tm L) = .tuple [.str (st 7), eTm (lamV v (lamV w L)), eTm s.tm] := rfl
 have e3 : eTm (fullT v w s.tm e.tm L) = .tuple [.str (st 7), .tuple [.str (st 7), eTm (lamV v (lamV w L)), eTm s.tm], eTm e.tm] := rfl
 have e4 : eTm (.app (halfT v w s.tm L) e.tm) = .tuple [.str (st 7), eTm (halfT v w s.tm L), eTm e.tm] := rfl
 have e5 : eTm (.app (halfT v w s.tm L) (hvr v w s.tm L).tm) = .tuple [.str (st 7), eTm (halfT v w s.tm L), eVr (hvr v w s.tm L)] := rfl
 rw [e1] at c1
 rw [e2] at c2
 rw [e3, e4] at c4
 rw [e5] at c5
 rw [e4] at c6
 rw [e3] at c7
 rw [e2, e3]
 simp only [EV, b32h, i0, j1, j2, G1, G3, G4, c1, c2, c3, c4, c5, c6, c7, bin_small, List.cons_append, List.nil_append, Nat.reduceLeDiff]
 rfl
theorem putting_i (n : Nat) (hn : 500 ≤ n) (x0 x1 x2 x3 x4 x5 x6 x7 x8 x9 x12 x13 x14 x15 x19 x20 x21 x22 x23 x24 x25 x26 x27 : Option V) (y28 y29 y30 y31 y32 y35 y36 : Option V) (σ : Store) (v w : Vr) (s e : Lf) (L : Tm) (P : P0 v w s.tm e.tm L) :
  exSs G (CF n) b32i [x0, x1, x2, x3, x4, x5, x6, x7, x8, x9, Dv (eVr v), Dv (eVr w), x12, x13, x14, x15, Dv (eLf e), Dv (eLf s), Dv (eTm L), x19, x20, x21, x22, x23, x24, x25, x26, x27, y28, y29, y30, y31, y32, Dv (.list ((headS ++ steps0 v w s.tm e.tm L).map eStp)), Dv (.list (headD.map eTh)), y35, y36, Dv (.list ((rows0 v w s.tm e.tm L).map eTm))] σ = .ret (.d (.bool true)) σ := by
 obtain ⟨m, rfl⟩ : ∃ m, n = m + 1 := ⟨n - 1, by exact Bd.pr1 hn⟩
 have rr := runs_head (runs0 P)
 have h1 := call_law_try m (by exact Bd.fn hn rfl) σ (headS ++ steps0 v w s.tm e.tm L) (by simp [headS, steps0]) rr.good
 have e1 : run0 (headS ++ steps0 v w s.tm e.tm L) = some (due0 v w s.tm e.tm L, headC) := rr.fold
 rw [e1] at h1
 simp only [eRun] at h1
 have t1 : toTupOp (.list ((headS ++ steps0 v w s.tm e.tm L).map eStp)) = some (.tuple ((headS ++ steps0 v w s.tm e.tm L).map eStp)) := toTup_is rfl (by simp [lim, headS, steps0])
 have hD := P.moDue
 have hne : cmpD .ne (.list ((due0 v w s.tm e.tm L).map eTh)) (.list ((due0 v w s.tm e.tm L).map eTh)) = some (.bool false) := by
  refine ne_self (by simp only [Z154, Z155, Z156, Z157, Z158, Z159, Z160]; exact pln_all pln_th _) ?_
  have := depth_all (enc := eTh) (D := 70) (due0 v w s.tm e.tm L) fun t ht => depth_th (hD t ht)
  simp only [PyData.depth]; exact Bd.wkc this rfl
 have hcomp : ∀ fr : Frame, fr.length = 38 → compK G (CF (m + 1)) 2 (.tup [(.tup []), (.var 39)]) (.var 39) [] fr (.d (.list ((rows0 v w s.tm e.tm L).map eTm))) σ = .ok (.d (.list ((rows0 v w s.tm e.tm L).map fun r => eTh ⟨[], r⟩))) σ := by
  intro fr hfr
  have h13 : (fr ++ List.replicate 2 (none : Option V)).length = 40 := by simp [hfr]
  rw [compK_is (n := 2) eTm (fun r => some (eTh ⟨[], r⟩)) (items := rows0 v w s.tm e.tm L) rfl (by simp [lim, rows0])]
  ·rfl
  ·intro r _
   rw [asg_var _ _ _ (by rw [h13]; decide)]
   have hg : ((fr ++ List.replicate 2 none).set 39 (some (V.d (eTm r))))[39]? = some (Dv (eTm r)) := by
    rw [List.getElem?_set_self (by rw [h13]; decide)]
   simp only [EV, hg, asBool, if_true]
   rfl
 have hb : binOp .add (.list (headD.map eTh)) (.list ((rows0 v w s.tm e.tm L).map fun r => eTh ⟨[], r⟩)) = some (.list ((due0 v w s.tm e.tm L).map eTh)) := by
  rw [bin_small (by simp [headD, rows0])]
  unfold due0
  rw [List.map_append, List.map_map]; rfl
 generalize (headS ++ steps0 v w s.tm e.tm L).map eStp = SS at h1 t1 ⊢
 generalize (due0 v w s.tm e.tm L).map eTh = DU at h1 hne hb ⊢
 generalize headD.map eTh = HD at hb ⊢
 generalize ((rows0 v w s.tm e.tm L).map fun r => eTh ⟨[], r⟩) = RR at hcomp hb
 generalize (rows0 v w s.tm e.tm L).map eTm = R0 at hcomp ⊢
 simp only [EV, b32i, t1, h1, e_comp]
 rw [hcomp _ rfl]
 simp only [EV, hb, hne]
theorem pool_ne {i j : Nat} {v w : Vr} (h1 : i < 3) (h2 : j < 3) (h : i ≠ j) (g1 : pool0[i]? = some v) (g2 : pool0[j]? = some w) : v.eq w = false := by
 have e1 : i = 0 ∨ i = 1 ∨ i = 2 := by lia
 have e2 : j = 0 ∨ j = 1 ∨ j = 2 := by lia
 rcases e1 with rfl | rfl | rfl <;> rcases e2 with rfl | rfl | rfl <;> first | exact absurd rfl h | (cases g1; cases g2; decide)
theorem fmod_other (k m : Int) {i j : Nat} (h1 : Int.fmod k 3 = i) (h2 : Int.fmod (k + 1 + Int.fmod m 2) 3 = j) : i ≠ j := by
 have hm : Int.fmod m 2 = m % 2 := by rw [Int.fmod_eq_emod_of_nonneg m (by decide)]
 have hk : Int.fmod k 3 = k % 3 := by rw [Int.fmod_eq_emod_of_nonneg k (by decide)]
 have hq : Int.fmod (k + 1 + Int.fmod m 2) 3 = (k + 1 + Int.fmod m 2) % 3 := by rw [Int.fmod_eq_emod_of_nonneg _ (by decide)]
 rw [hq, hm] at h2
 rw [hk] at h1
 lia
theorem call_law_putting (n : Nat) (hn : 502 ≤ n) (a0 a1 a2 a3 a4 a5 a6 a7 : Int) (σ : Store) : CF (n + 1) 32 [.d (.int a0), .d (.int a1), .d (.int a2), .d (.int a3), .d (.int a4), .d (.int a5), .d (.int a6), .d (.int a7)] σ = .ok (.d (.bool true)) σ := by
 obtain ⟨ja, l4, h4⟩ := fmod_nat a0 5 (by decide)
 obtain ⟨jb, l5, h5⟩ := fmod_nat a1 5 (by decide)
 obtain ⟨iu, l1, h1⟩ := fmod_nat a2 3 (by decide)
 obtain ⟨iv, l2, h2⟩ := fmod_nat a3 3 (by decide)
 obtain ⟨iw, l3, h3⟩ := fmod_nat (a3 + 1 + Int.fmod a4 2) 3 (by decide)
 obtain ⟨jc, l6, h6⟩ := fmod_nat a5 5 (by decide)
 obtain ⟨jd, l7, h7⟩ := fmod_nat a6 5 (by decide)
 obtain ⟨je, l8, h8⟩ := fmod_nat a7 5 (by decide)
 obtain ⟨u, g1⟩ := get_of (l := pool0) l1 rfl
 obtain ⟨v, g2⟩ := get_of (l := pool0) l2 rfl
 obtain ⟨w, g3⟩ := get_of (l := pool0) l3 rfl
 obtain ⟨a, g4⟩ := get_of (l := leafL) l4 rfl
 obtain ⟨b, g5⟩ := get_of (l := leafL) l5 rfl
 obtain ⟨c, g6⟩ := get_of (l := leafL) l6 rfl
 obtain ⟨d, g7⟩ := get_of (l := leafL) l7 rfl
 obtain ⟨e, g8⟩ := get_of (l := leafL) l8 rfl
 have hvw := pool_ne l2 l3 (fmod_other a3 a4 h2 h3) g2 g3
 have Fa := leaf_ok a (List.mem_of_getElem? g4)
 have Fb := leaf_ok b (List.mem_of_getElem? g5)
 have Fc := leaf_ok c (List.mem_of_getElem? g6)
 have Fd := leaf_ok d (List.mem_of_getElem? g7)
 have Fe := leaf_ok e (List.mem_of_getElem? g8)
 have hu := pool_ok u (List.mem_of_getElem? g1)
 have hv := pool_ok v (List.mem_of_getElem? g2)
 have hw := pool_ok w (List.mem_of_getElem? g3)
 have P := p0_of Fa Fb Fc Fd Fe hu hv hw hvw
 obtain ⟨ar, har⟩ : ∃ ar, ar = (arL v w (c.l ++ d.l) e.l (ordL u (a.l ++ b.l))) := ⟨_, rfl⟩
 have hall : ar.length ≤ 6 ∧ ∀ r ∈ ar, r.k ≤ 1 := by
  have := Fc.ll; have := Fd.ll; have := Fe.ll
  subst har
  unfold arL
  refine ⟨?_, fun r hr => ?_⟩
  ·rw [List.length_append]
   have e1 : (if memv v (ordL u (a.l ++ b.l)) then c.l ++ d.l else []).length ≤ 4 := by split <;> simp; with_reducible exact Bd.sm ‹_› ‹_› rfl
   have e2 : (if memv w (ordL u (a.l ++ b.l)) then e.l else []).length ≤ 2 := by
    split
    ·exact Fe.ll
    ·simp
   exact Bd.sm e1 e2 rfl
  ·rcases List.mem_append.mp hr with h | h
   ·split at h
    ·rcases List.mem_append.mp h with h | h
     ·exact Fc.nk r h
     ·exact Fd.nk r h
    ·cases h
   ·split at h
    ·exact Fe.nk r h
    ·cases h
 have hbig : memn u.x (u.k + 2) (((a.l ++ b.l) ++ ar).map nxOf) = false := by
  refine memn_big (M := 1) (fun q hq => ?_) (by lia)
  obtain ⟨r, hr, rfl⟩ := List.mem_map.mp hq
  show r.k ≤ 1
  rcases List.mem_append.mp hr with h | h
  ·rcases List.mem_append.mp h with h | h
   ·exact Fa.nk r h
   ·exact Fb.nk r h
  ·exact hall.2 r h
 have hnw : newVr u (a.l ++ b.l) ar = ⟨u.x, newK u (bodyT a b) [(v, bodyT c d), (w, e.tm)], u.t⟩ := by
  rw [new_is Fa Fb Fc Fd Fe u v w hu, ← har]; rfl
 obtain ⟨n, rfl⟩ : ∃ k, n = k + 2 := ⟨n - 2, by exact Bd.pr2 hn⟩
 have ha := putting_a n a0 a1 a2 a3 a4 a5 a6 a7 σ iu iv iw ja jb jc jd je u v w a b c d e h1 h2 h3 h4 h5 h6 h7 h8 l1 l2 l3 l4 l5 l6 l7 l8 g1 g2 g3 g4 g5 g6 g7 g8 Fa.ll Fb.ll Fc.ll Fd.ll
 obtain ⟨y, hb⟩ := putting_b (n + 2) (by exact Bd.lw hn rfl) (Iv a0) (Iv a1) (Iv a2) (Iv a3) (Iv a4) (Iv a5) (Iv a6) (Iv a7) (Dv (.list (pool0.map eVr))) (Dv (eVr v)) (Dv (eVr w)) (Dv (eLf a)) (Dv (eLf b)) (Dv (eLf c)) (Dv (eLf d)) (Dv (eLf e)) (Dv (eLf ⟨bodyT c d, c.l ++ d.l⟩)) σ u a b Fa Fb hu ⟨P.dL.dp, P.dL.sz⟩
 have hc := putting_c (n + 2) (Iv a0) (Iv a1) (Iv a2) (Iv a3) (Iv a4) (Iv a5) (Iv a6) (Iv a7) (Dv (.list (pool0.map eVr))) (Dv (eVr u)) (Dv (eLf a)) (Dv (eLf b)) (Dv (eLf c)) (Dv (eLf d)) (Dv (eTm (lamV u (bodyT a b)))) (Dv (.list ((a.l ++ b.l).map eVr))) y σ u v w a b c d e Fc Fd Fe hv hw
 rw [← har] at hc
 obtain ⟨y5, y6, hd⟩ := putting_d (n + 2) (Iv a0) (Iv a1) (Iv a2) (Iv a3) (Iv a4) (Iv a5) (Iv a6) (Iv a7) (Dv (.list (pool0.map eVr))) (Dv (eVr v)) (Dv (eVr w)) (Dv (eLf a)) (Dv (eLf b)) (Dv (eLf c)) (Dv (eLf d)) (Dv (eLf e)) (Dv (eLf ⟨bodyT c d, c.l ++ d.l⟩)) (Dv (eTm (lamV u (bodyT a b)))) (some (.loc σ.length)) (Dv (eVr w)) (Dv (eLf e)) (σ ++ [.lst ((ordL u (a.l ++ b.l)).map eVr)]) u (a.l ++ b.l) ar hu (by have := Fa.ll; have := Fb.ll; have := hall.1; simp; with_reducible exact Bd.s4 ‹_› ‹_› this rfl) hbig
 have he := putting_e (n + 2) (by exact Bd.lw hn rfl) (Iv a0) (Iv a1) (Iv a2) (Iv a3) (Iv a4) (Iv a5) (Iv a6) (Iv a7) (Dv (.list (pool0.map eVr))) (Dv (eLf c)) (Dv (eLf d)) (Dv (.list ((a.l ++ b.l).map eVr))) (some (.loc σ.length)) (Dv (eVr w)) (Dv (.list (ar.map eVr))) (Dv (eLf e)) y5 y6 (σ ++ [.lst ((ordL u (a.l ++ b.l)).map eVr)]) u v w (newVr u (a.l ++ b.l) ar) a b c d e Fa Fb hu hv hw P hnw
 have hf := putting_f (n + 2) (by exact Bd.lw hn rfl) (Iv a0) (Iv a1) (Iv a2) (Iv a3) (Iv a4) (Iv a5) (Iv a6) (Iv a7) (Dv (.list (pool0.map eVr))) (Dv (eVr u)) (Dv (eLf a)) (Dv (eLf b)) (Dv (eLf c)) (Dv (eLf d)) (Dv (.list ((a.l ++ b.l).map eVr))) (some (.loc σ.length)) (Dv (eVr w)) (Dv (.list (ar.map eVr))) (Dv (eLf e)) (Dv (eVr (newVr u (a.l ++ b.l) ar))) (y5) (y6) (some (.d (.list (([(u, (newVr u (a.l ++ b.l) ar).tm), (v, bodyT c d), (w, e.tm)] : List Pr).map ePr)))) (σ ++ [.lst ((ordL u (a.l ++ b.l)).map eVr)]) v w ⟨bodyT c d, c.l ++ d.l⟩ e (lamV u (bodyT a b)) P
 have hg := putting_g n (Iv a0) (Iv a1) (Iv a2) (Iv a3) (Iv a4) (Iv a5) (Iv a6) (Iv a7) (Dv (.list (pool0.map eVr))) (Dv (eVr u)) (Dv (eLf a)) (Dv (eLf b)) (Dv (eLf c)) (Dv (eLf d)) (Dv (.list ((a.l ++ b.l).map eVr))) (some (.loc σ.length)) (Dv (eVr w)) (Dv (.list (ar.map eVr))) (Dv (eLf e)) (Dv (eVr (newVr u (a.l ++ b.l) ar))) (y5) (y6) (some (.d (.list (([(u, (newVr u (a.l ++ b.l) ar).tm), (v, bodyT c d), (w, e.tm)] : List Pr).map ePr)))) (σ ++ [.lst ((ordL u (a.l ++ b.l)).map eVr)]) v w ⟨bodyT c d, c.l ++ d.l⟩ e (lamV u (bodyT a b))
 have hh := putting_h (n + 1) (Iv a0) (Iv a1) (Iv a2) (Iv a3) (Iv a4) (Iv a5) (Iv a6) (Iv a7) (Dv (.list (pool0.map eVr))) (Dv (eVr u)) (Dv (eLf a)) (Dv (eLf b)) (Dv (eLf c)) (Dv (eLf d)) (Dv (.list ((a.l ++ b.l).map eVr))) (some (.loc σ.length)) (Dv (eVr w)) (Dv (.list (ar.map eVr))) (Dv (eLf e)) (Dv (eVr (newVr u (a.l ++ b.l) ar))) (y5) (y6) (some (.d (.list (([(u, (newVr u (a.l ++ b.l) ar).tm), (v, bodyT c d), (w, e.tm)] : List Pr).map ePr)))) (σ ++ [.lst ((ordL u (a.l ++ b.l)).map eVr)]) v w ⟨bodyT c d, c.l ++ d.l⟩ e (lamV u (bodyT a b)) (.list ((headS ++ steps0 v w (bodyT c d) e.tm (lamV u (bodyT a b))).map eStp)) (.list (headD.map eTh))
 have hi := putting_i (n + 2) (by exact Bd.lw hn rfl) (Iv a0) (Iv a1) (Iv a2) (Iv a3) (Iv a4) (Iv a5) (Iv a6) (Iv a7) (Dv (.list (pool0.map eVr))) (Dv (eVr u)) (Dv (eLf a)) (Dv (eLf b)) (Dv (eLf c)) (Dv (eLf d)) (Dv (.list ((a.l ++ b.l).map eVr))) (some (.loc σ.length)) (Dv (eVr w)) (Dv (.list (ar.map eVr))) (Dv (eLf e)) (Dv (eVr (newVr u (a.l ++ b.l) ar))) (y5) (y6) (some (.d (.list (([(u, (newVr u (a.l ++ b.l) ar).tm), (v, bodyT c d), (w, e.tm)] : List Pr).map ePr)))) (some (.d (eTm (put (lamV u (bodyT a b)) [(v, bodyT c d), (w, e.tm)])))) (some (.d (eTm (lamV w (lamV u (bodyT a b)))))) (some (.d (eTm (lamV v (lamV w (lamV u (bodyT a b))))))) (some (.d (eTm (halfT v w (bodyT c d) (lamV u (bodyT a b)))))) (some (.d (eTm (endT v w (bodyT c d) e.tm (lamV u (bodyT a b)))))) (some (.d (eTm (onceT v w (bodyT c d) (lamV u (bodyT a b)))))) (some (.d (eTm (fullT v w (bodyT c d) e.tm (lamV u (bodyT a b)))))) (σ ++ [.lst ((ordL u (a.l ++ b.l)).map eVr)]) v w ⟨bodyT c d, c.l ++ d.l⟩ e (lamV u (bodyT a b)) P
 have hall := (seq_next (b := b32b ++ (b32c ++ (b32d ++ (b32e ++ (b32f ++ (b32g ++ (b32h ++ (b32i)))))))) ha).trans ((seq_next (b := b32c ++ (b32d ++ (b32e ++ (b32f ++ (b32g ++ (b32h ++ (b32i))))))) hb).trans ((seq_next (b := b32d ++ (b32e ++ (b32f ++ (b32g ++ (b32h ++ (b32i)))))) hc).trans ((seq_next (b := b32e ++ (b32f ++ (b32g ++ (b32h ++ (b32i))))) hd).trans ((seq_next (b := b32f ++ (b32g ++ (b32h ++ (b32i)))) he).trans ((seq_next (b := b32g ++ (b32h ++ (b32i))) hf).trans ((seq_next (b := b32h ++ (b32i)) hg).trans ((seq_next (b := b32i) hh).trans (hi))))))))
 rw [call_of (fd := f32) (fr := [Iv a0, Iv a1, Iv a2, Iv a3, Iv a4, Iv a5, Iv a6, Iv a7, none, none, none, none, none, none, none, none, none, none, none, none, none, none, none, none, none, none, none, none, none, none, none, none, none, none, none, none, none, none]) (body := b32a ++ (b32b ++ (b32c ++ (b32d ++ (b32e ++ (b32f ++ (b32g ++ (b32h ++ (b32i))))))))) rfl rfl (by simp only [f32, List.map_cons, List.map_nil, List.cons_append, List.nil_append, Nat.reduceSub, List.replicate]) b32_is, hall, close_d, take_last]
theorem e_idx_script (l : List Int) (i : Nat) (hi : i < l.length) (h : i < 1000) : idxOp (.list (l.map PyData.int)) (.int i) = some (.int (l.getD i 0)) := by
 have : l[i]? = some (l.getD i 0) := by rw [List.getD_eq_getElem?_getD, List.getElem?_eq_getElem hi]; rfl
 exact idx_listE PyData.int l i this h
noncomputable def b39e : List S := [.ite (.and [(.cmp .eq (.var 1) (Qi 0)), (.not (.call 32 [(.var 2), (.var 3), (.var 4), (.var 5), (.var 6), (.var 7), (.var 8), (.var 9)]))]) [.ret (.con (.bool false))] [], .ite (.and [(.cmp .eq (.var 1) (Qi 1)), (.not (.call 34 [(.var 2), (.var 3), (.var 4), (.var 5), (.var 6), (.var 7), (.var 8), (.var 9), (.var 10), (.var 11), (.var 12)]))]) [.ret (.con (.bool false))] [], .ite (.and [(.cmp .eq (.var 1) (Qi 2)), (.not (.call 37 [(.var 2), (.var 3), (.var 4), (.var 5), (.var 6), (.var 7), (.var 8), (.var 9), (.var 10)]))]) [.ret (.con (.bool false))] [], .ite (.and [(.cmp .eq (.var 1) (Qi 3)), (.not (.call 38 [(.var 2), (.var 3), (.var 4), (.var 5)]))]) [.ret (.con (.bool false))] [], .ret (.con (.bool true))]
theorem ite_skip {C : CallT} {fr : Frame} {σ : Store} {c : E} {a r : List S} (h : evE G C c fr σ = .ok (.d (.bool false)) σ) : exSs G C (.ite c a [] :: r) fr σ = exSs G C r fr σ := by rw [ss_ite, h]; rfl
theorem and_skip {C : CallT} {fr : Frame} {σ : Store} {c e : E} {b : Bool} (h : evE G C c fr σ = .ok (.d (.bool b)) σ) (g : b = true → evE G C e fr σ = .ok (.d (.bool false)) σ) : evE G C (.and [c, e]) fr σ = .ok (.d (.bool false)) σ := by
 rw [e_and, a_cons, h]
 cases b with
 | false => rfl
 | true => rw [ka_t, a_cons, g rfl]; rfl
theorem law_fin (m : Nat) (x0 : Option V) (r a1 a2 a3 a4 a5 a6 a7 a8 a9 a10 a11 : Int) (σ : Store) (c0 : CF m 32 [.d (.int a1), .d (.int a2), .d (.int a3), .d (.int a4), .d (.int a5), .d (.int a6), .d (.int a7), .d (.int a8)] σ = .ok (.d (.bool true)) σ) (c1 : CF m 34 [.d (.int a1), .d (.int a2), .d (.int a3), .d (.int a4), .d (.int a5), .d (.int a6), .d (.int a7), .d (.int a8), .d (.int a9), .d (.int a10), .d (.int a11)] σ = .ok (.d (.bool true)) σ) (c2 : CF m 37 [.d (.int a1), .d (.int a2), .d (.int a3), .d (.int a4), .d (.int a5), .d (.int a6), .d (.int a7), .d (.int a8), .d (.int a9)] σ = .ok (.d (.bool true)) σ) (c3 : CF m 38 [.d (.int a1), .d (.int a2), .d (.int a3), .d (.int a4)] σ = .ok (.d (.bool true)) σ) :
  close σ.length (exSs G (CF m) b39e [x0, Iv r, Iv a1, Iv a2, Iv a3, Iv a4, Iv a5, Iv a6, Iv a7, Iv a8, Iv a9, Iv a10, Iv a11] σ) = .ok (.d (.bool true)) σ := by
 have hc (i : Int) : evE G (CF m) (.cmp .eq (.var 1) (.con (.int i))) [x0, Iv r, Iv a1, Iv a2, Iv a3, Iv a4, Iv a5, Iv a6, Iv a7, Iv a8, Iv a9, Iv a10, Iv a11] σ = .ok (.d (.bool (r == i))) σ := by simp only [EV, cmp_int]
 unfold b39e
 rw [ite_skip (and_skip (hc 0) fun _ => by simp only [EV, c0])]
 rw [ite_skip (and_skip (hc 1) fun _ => by simp only [EV, c1])]
 rw [ite_skip (and_skip (hc 2) fun _ => by simp only [EV, c2])]
 rw [ite_skip (and_skip (hc 3) fun _ => by simp only [EV, c3])]
 simp only [EV, k1_ok]
theorem law_gen (m : Nat) (hm : 503 ≤ m) (l : List Int) (hl : l.length ≤ 63) (σ : Store) : CF (m + 1) 39 [.d (.list (l.map .int))] σ = .ok (.d (.bool true)) σ := by
 rw [call_of (fd := f39) (fr := [Dv (.list (l.map .int)), none, none, none, none, none, none, none, none, none, none, none, none]) (body := b39) rfl rfl (by simp only [f39, List.map_cons, List.map_nil, List.cons_append, List.nil_append, Nat.reduceSub, List.replicate]) rfl]
 have hlen : lenOp (.list (l.map PyData.int)) = some (.int l.length) := by
  simp only [lenOp, List.length_map]; rw [if_pos (by simp only [lim]; exact Bd.wk hl rfl)]
 have hlt : cmpD .lt (.int l.length) (.int 12) = some (.bool (decide ((l.length : Int) < 12))) := rfl
 by_cases h12 : (l.length : Int) < 12
 ·rw [decide_eq_true h12] at hlt
  simp only [EV, b39, hlen, hlt]
 ·rw [decide_eq_false h12] at hlt
  have g (i : Nat) (hi : i < 12) : idxOp (.list (l.map PyData.int)) (.int i) = some (.int (l.getD i 0)) := e_idx_script l i (by lia) (by exact Bd.ll hi rfl)
  have q0 : idxOp (.list (l.map PyData.int)) (.int 0) = some (.int (l.getD 0 0)) := g 0 (by decide)
  have q1 : idxOp (.list (l.map PyData.int)) (.int 1) = some (.int (l.getD 1 0)) := g 1 (by decide)
  have q2 : idxOp (.list (l.map PyData.int)) (.int 2) = some (.int (l.getD 2 0)) := g 2 (by decide)
  have q3 : idxOp (.list (l.map PyData.int)) (.int 3) = some (.int (l.getD 3 0)) := g 3 (by decide)
  have q4 : idxOp (.list (l.map PyData.int)) (.int 4) = some (.int (l.getD 4 0)) := g 4 (by decide)
  have q5 : idxOp (.list (l.map PyData.int)) (.int 5) = some (.int (l.getD 5 0)) := g 5 (by decide)
  have q6 : idxOp (.list (l.map PyData.int)) (.int 6) = some (.int (l.getD 6 0)) := g 6 (by decide)
  have q7 : idxOp (.list (l.map PyData.int)) (.int 7) = some (.int (l.getD 7 0)) := g 7 (by decide)
  have q8 : idxOp (.list (l.map PyData.int)) (.int 8) = some (.int (l.getD 8 0)) := g 8 (by decide)
  have q9 : idxOp (.list (l.map PyData.int)) (.int 9) = some (.int (l.getD 9 0)) := g 9 (by decide)
  have q10 : idxOp (.list (l.map PyData.int)) (.int 10) = some (.int (l.getD 10 0)) := g 10 (by decide)
  have q11 : idxOp (.list (l.map PyData.int)) (.int 11) = some (.int (l.getD 11 0)) := g 11 (by decide)
  have c0 := call_law_putting (m - 1) (by lia) (l.getD 1 0) (l.getD 2 0) (l.getD 3 0) (l.getD 4 0) (l.getD 5 0) (l.getD 6 0) (l.getD 7 0) (l.getD 8 0) σ
  have c1 := call_law_logic (m - 1) (by lia) (l.getD 1 0) (l.getD 2 0) (l.getD 3 0) (l.getD 4 0) (l.getD 5 0) (l.getD 6 0) (l.getD 7 0) (l.getD 8 0) (l.getD 9 0) (l.getD 10 0) (l.getD 11 0) σ
  have c2 := call_law_types (m - 1) (by lia) (l.getD 1 0) (l.getD 2 0) (l.getD 3 0) (l.getD 4 0) (l.getD 5 0) (l.getD 6 0) (l.getD 7 0) (l.getD 8 0) (l.getD 9 0) σ
  have c3 := call_law_terms (m - 1) (by lia) (l.getD 1 0) (l.getD 2 0) (l.getD 3 0) (l.getD 4 0) σ
  rw [show m - 1 + 1 = m by lia] at c0 c1 c2 c3
  have s1 : exSs G (CF m) b39 [Dv (.list (l.map .int)), none, none, none, none, none, none, none, none, none, none, none, none] σ = exSs G (CF m) b39e [Dv (.list (l.map .int)), Dv (.int (Int.fmod (l.getD 0 0) 4)), Dv (.int (l.getD 1 0)), Dv (.int (l.getD 2 0)), Dv (.int (l.getD 3 0)), Dv (.int (l.getD 4 0)), Dv (.int (l.getD 5 0)), Dv (.int (l.getD 6 0)), Dv (.int (l.getD 7 0)), Dv (.int (l.getD 8 0)), Dv (.int (l.getD 9 0)), Dv (.int (l.getD 10 0)), Dv (.int (l.getD 11 0))] σ := by
   simp only [EV, b39, hlen, hlt, q0, q1, q2, q3, q4, q5, q6, q7, q8, q9, q10, q11, mod_int _ 4 (by decide), b39e]
  rw [s1]
  exact law_fin m _ _ _ _ _ _ _ _ _ _ _ _ _ σ c0 c1 c2 c3
theorem law_true (l : List Int) (hl : l.length ≤ 63) (σ : Store) : callF FT G 690 39 [.d (.list (l.map .int))] σ = .ok (.d (.bool true)) σ := law_gen 689 (Nat.le_of_ble_eq_true rfl) l hl σ
end Holk
namespace Holk
open PySem PyProof.Rows PySem.W
noncomputable def wNon (v : Value) : Option {x : Unit // v = .none} := match v with
 | .none => some ⟨(), rfl⟩
 | _ => none
noncomputable def wBool (v : Value) : Option {x : Bool // v = .bool x} := match v with
 | .bool b => some ⟨b, rfl⟩
 | _ => none
noncomputable def wInt (v : Value) : Option {x : Int // ∃ t, v = .int x t} := match v with
 | .int b t => some ⟨b, t, rfl⟩
 | _ => none
noncomputable def wStr (v : Value) : Option {x : Str // ∃ t, v = .str x t} := match v with
 | .str b t => some ⟨b, t, rfl⟩
 | _ => none
noncomputable def wRef (v : Value) : Option {x : Addr // v = .ref x} := match v with
 | .ref b => some ⟨b, rfl⟩
 | _ => none
noncomputable def wTup (o : Obj) : Option {x : List Value × Nat // o = tupO x.1 x.2} := match o with
 | ⟨.type c, none, .seq arr n, sl⟩ => if h : c = "tuple" ∧ sl.isEmpty = true then some ⟨(arr.toList, n), by obtain ⟨rfl, h⟩ := h; rw [Array.isEmpty_iff.mp h]; simp [tupO]⟩ else none
 | _ => none
mutual
noncomputable def rdB (K : Frag) : Nat → Value → PyData → Bool
 | 0, _, _ => false
 | f + 1, v, d => match d with
  | .none => anyS (wNon v) fun _ => true
  | .bool b => anyS (wBool v) fun c => b == c
  | .int i => anyS (wInt v) fun j => i == j
  | .str x => anyS (wStr v) fun y => x == y && PyData.strOk x
  | .tuple xs => anyS (wRef v) fun a => (K.lookup a).any fun o => anyS (wTup o) fun q => rdAll K f q.1 xs
  | .list _ => false
  | .dict _ => false
noncomputable def rdAll (K : Frag) : Nat → List Value → List PyData → Bool
 | 0, _, _ => false
 | f + 1, vs, xs => match vs with
  | [] => xs.isEmpty
  | v :: vs => match xs with
   | [] => false
   | x :: xs => rdB K f v x && rdAll K f vs xs
end
theorem rd_ok {K : Frag} {h : Heap} {Φ : Fz} (X : K.In h) (hΦ : ∀ a o, h.get? a = some o → Φ a = some o) : ∀ f, (∀ v d, rdB K f v d = true → RD Φ v d) ∧ (∀ vs xs, rdAll K f vs xs = true → RDs Φ vs xs)
 | 0 => ⟨fun v d h => Bool.noConfusion h, fun vs xs h => Bool.noConfusion h⟩
 | f + 1 => by
  obtain ⟨ih1, ih2⟩ := rd_ok X hΦ f
  refine ⟨fun v d hb => ?_, fun vs xs hb => ?_⟩
  ·cases d with
   | none => obtain ⟨_, rfl, _⟩ := anyS_iff hb; exact .none
   | bool b => obtain ⟨c, rfl, e⟩ := anyS_iff hb; rw [beq_of e]; exact .bool c
   | int i => obtain ⟨j, ⟨t, rfl⟩, e⟩ := anyS_iff hb; rw [beq_of e]; exact .int j t
   | str x =>
    obtain ⟨y, ⟨t, rfl⟩, e⟩ := anyS_iff hb
    obtain ⟨e, hs⟩ := and2 e
    rw [beq_of e] at hs ⊢
    exact .str y t hs
   | list xs => cases hb
   | dict kvs => cases hb
   | tuple xs =>
    obtain ⟨a, rfl, e⟩ := anyS_iff hb
    obtain ⟨o, ho, e1⟩ := oany_iff e
    obtain ⟨q, rfl, e2⟩ := anyS_iff e1
    exact .tuple (hΦ a _ (X a _ ho)) (ih2 _ _ e2)
  ·cases vs with
   | nil => cases xs with
    | nil => exact .nil
    | cons => cases hb
   | cons v vs => cases xs with
    | nil => cases hb
    | cons x xs => exact .cons (ih1 v x (and2 hb).1) (ih2 vs xs (and2 hb).2)
noncomputable def noName (K : Frag) (x : Str) : Bool := match nsIn K mainGlobals x with | some none => true | _ => false
noncomputable def globB (K : Frag) (x : Str) (d : PyData) : Bool := match nsIn K mainGlobals x with | some (some v) => rdB K 40 v d | _ => false
noncomputable def globsB (K : Frag) (GN : List Str) (G : List PyData) : Bool := (GN.zip G).all fun p => globB K p.1 p.2
theorem noName_iff {K : Frag} {x : Str} (h : noName K x = true) : nsIn K mainGlobals x = some none := by
 unfold noName at h; split at h
 ·assumption
 ·cases h
theorem base_of {K : Frag} {p : Program} {loose : List Str} {mean : ExcName → Option Value} {prog : Program} {w : World} {mg mb : Str → Option Value} {h : Heap} {G : List PyData} {GN FN : List Str} {FT : List FD} (X : K.In h) (T : Top p loose mean mg mb h) (himp : importsNone p = true)
  (h1 : noName K "len" = true) (h2 : noName K "list" = true) (h3 : noName K "tuple" = true) (h4 : noName K "type" = true) (h5 : noName K "bool" = true) (h6 : noName K "range" = true) (h7 : noName K "ValueError" = true) (hg : globsB K GN G = true) : Base ⟨prog, w, h, mg, mb, G, GN, FT, FN⟩ where
 g := T.g
 b := T.b
 nolimit := T.nolimit
 sys := by obtain ⟨mm, ⟨o, _, _, ho, _⟩, _⟩ := (T.seer himp).mods; exact ⟨o, ho⟩
 glob := by
  intro i x d hx hd
  have hm : (x, d) ∈ GN.zip G := by
   refine List.mem_of_getElem? (i := i) ?_
   rw [List.getElem?_zip_eq_some]; exact ⟨hx, hd⟩
  have hb := List.all_eq_true.mp hg _ hm
  unfold globB at hb
  dsimp only at hb
  split at hb
  ·rename_i v hv
   exact ⟨v, mg_of X T.g hv, fun Φ hΦ => (rd_ok X hΦ 40).1 v d hb⟩
  ·cases hb
 len := ⟨mg_none_of X T.g (noName_iff h1), (T.builtins _ (by decide)).trans (by boot_fast)⟩
 list := ⟨mg_none_of X T.g (noName_iff h2), (T.builtins _ (by decide)).trans (by boot_fast)⟩
 tuple := ⟨mg_none_of X T.g (noName_iff h3), (T.builtins _ (by decide)).trans (by boot_fast)⟩
 type := ⟨mg_none_of X T.g (noName_iff h4), (T.builtins _ (by decide)).trans (by boot_fast)⟩
 bool := ⟨mg_none_of X T.g (noName_iff h5), (T.builtins _ (by decide)).trans (by boot_fast)⟩
 range := ⟨mg_none_of X T.g (noName_iff h6), (T.builtins _ (by decide)).trans (by boot_fast)⟩
 valueError := ⟨mg_none_of X T.g (noName_iff h7), (T.builtins _ (by decide)).trans (by boot_fast)⟩
noncomputable def tabB (GN FN : List Str) (FT : List FD) (ds : List DefRec) : Bool := (FN.zip FT).all fun p => ds.any fun d => d.name == p.1 && ckF GN FN p.2 d
theorem funs_of {p : Program} {loose : List Str} {mean : ExcName → Option Value} {prog : Program} {w : World} {mg mb : Str → Option Value} {h : Heap} {G : List PyData} {GN FN : List Str} {FT : List FD} (T : Top p loose mean mg mb h) (hlen : FN.length = FT.length) (ht : tabB GN FN FT (recsOf p) = true) : Funs ⟨prog, w, h, mg, mb, G, GN, FT, FN⟩ (recsOf p) where
 fn := T.fn
 tab := by
  intro f name hf
  have hlt : f < FT.length := by rw [← hlen]; exact (List.getElem?_eq_some_iff.mp hf).1
  have hm : (name, FT[f]) ∈ FN.zip FT := by
   refine List.mem_of_getElem? (i := f) ?_
   rw [List.getElem?_zip_eq_some]; exact ⟨hf, by simp [hlt]⟩
  have hb := List.all_eq_true.mp ht _ hm
  simp only [List.any_eq_true, Bool.and_eq_true, beq_iff_eq] at hb
  obtain ⟨d, hd, h1, h2⟩ := hb
  exact ⟨d, hd, FT[f], h1, by simp [hlt], h2⟩
theorem ints_rd {Φ : Fz} : ∀ {vs : List Value} {l : List Int}, IntsAre vs l → RDs Φ vs (l.map .int)
 | _, _, h => by
  induction h with
  | nil => exact .nil
  | cons => rename_i ih; exact .cons (.int _ _) ih
theorem finish {prog : Program} {w : World} {mg mb : Str → Option Value} {s₁ : Shared} {FN : List Str} {GN : List Str} {G : List PyData} {FT : List FD} {ds : List DefRec} {fa la : Addr} {vs : List Value} {l : List Int} {f : Nat} {name : Str}
  (B : Base ⟨prog, w, s₁.heap, mg, mb, G, GN, FT, FN⟩) (F : Funs ⟨prog, w, s₁.heap, mg, mb, G, GN, FT, FN⟩ ds) (hf : FN[f]? = some name) (hm : mg name = some (.ref fa)) (hl : s₁.heap.get? la = some (lstO vs 0)) (hi : IntsAre vs l)
  (hlaw : ∀ σ, callF FT G 690 f [.d (.list (l.map .int))] σ = .ok (.d (.bool true)) σ) {Q : Value → Shared → Prop} {E : Value → Shared → Prop}
  (hQ : ∀ h' k, (∀ a o, s₁.heap.get? a = some o → h'.get? a = some o) → Q (.bool true) { s₁ with heap := h', toks := k }) : wpAny (model prog w) callerA (call (.ref fa) [.ref la]) Q E s₁ := by
 have hc := callF_ok (W := ⟨prog, w, s₁.heap, mg, mb, G, GN, FT, FN⟩) B F 690 f name fa hf hm callerA [] 0 [] (fun a => s₁.heap.get? a) [] s₁ [.ref la] [.d (.list (l.map .int))] rfl rfl (by decide) (by decide)
  ⟨fun _ _ e => e, fun _ _ e => e, rfl, fun n a c h => by simp at h, List.nodup_nil, fun a h => nomatch h⟩ (fun env h => nomatch h) ⟨RD.list (n := 0) hl (ints_rd hi), trivial⟩
 refine hc Q E ?_ ?_ ?_
 ·show callF FT G 690 f [.d (.list (l.map .int))] [] ≠ .stuck
  rw [hlaw]; intro h; cases h
 ·intro v x σ' Φ' h' k e I S r
  have e' : callF FT G 690 f [.d (.list (l.map .int))] [] = .ok x σ' := e
  rw [hlaw] at e'
  cases e'
  cases r
  exact hQ h' k fun a o q => S.kp.keep a o (fun z => nomatch z) (fun z => nomatch z) q
 ·intro e σ' Φ' h' k q
  have e' : callF FT G 690 f [.d (.list (l.map .int))] [] = .err σ' := q
  rw [hlaw] at e'
  cases e'
end Holk
open PySem PySem.W PyProof.Rows
set_option Elab.async false
set_option maxHeartbeats 8000000
namespace Holk
/-! the head, by hand: the top's run at once -/
noncomputable abbrev PP : Program := Challenge.pw_sx_r026_1
noncomputable def keepL : List Nat := (List.range 28).map (· + 1) ++ (List.range 23).map (· + 30)
noncomputable def QQ : Program := view PP keepL
noncomputable abbrev LL : OpenLaw := Challenge.rw_sx_r026_1
noncomputable def fragAll (h : Heap) : Frag := (List.range 500).filterMap fun a => (h.get? a).map fun o => (a, o)
theorem frag_in (h : Heap) : (fragAll h).In h := by
 intro a o e
 have : ∀ l : List Nat, (l.filterMap fun a => (h.get? a).map fun o => (a, o)).lookup a = some o → h.get? a = some o := by
  intro l
  induction l with
  | nil => intro e; cases e
  | cons b l ih =>
   intro e
   rw [List.filterMap_cons] at e
   cases hb : h.get? b with
   | none => rw [hb] at e; exact ih e
   | some o' =>
    rw [hb] at e
    simp only [Option.map_some, List.lookup_cons] at e
    cases hq : a == b with
    | true =>
     rw [hq] at e
     cases e
     have : a = b := by simpa using hq
     rw [this]; exact hb
    | false => rw [hq] at e; exact ih e
 exact this _ e
noncomputable def checkB (K : Frag) : Bool := noName K "len" && noName K "list" && noName K "tuple" && noName K "type" && noName K "bool" && noName K "range" && noName K "ValueError" && globsB K GN G
theorem check_parts {K : Frag} (h : checkB K = true) : ((((((noName K "len" = true ∧ noName K "list" = true) ∧ noName K "tuple" = true) ∧ noName K "type" = true) ∧ noName K "bool" = true) ∧ noName K "range" = true) ∧ noName K "ValueError" = true) ∧ globsB K GN G = true := by
 unfold checkB at h
 simpa only [Bool.and_eq_true] using h
noncomputable def HK : Hook := ⟨Bool, fun s => checkB (fragAll s.heap), fun _ => true, fun _ h => ∃ K : Frag, K.In h ∧ checkB K = true, fun _ s e => ⟨_, frag_in s.heap, e⟩, fun _ _ _ ⟨K, x, e⟩ k => ⟨K, x.keeps k, e⟩⟩
theorem left0 : LeftO PP QQ [] (fun s => xlAt QQ [] s && recOk (RowW.records LL.row.toRowW) s) (Hook.obs HK) (Hook.val HK) 3146 := by
 intro w
 kernel_rfl
theorem all_two {α : Type} {f : α → Bool} {l : List α} (k : Nat) (h1 : (l.take k).all f = true) (h2 : (l.drop k).all f = true) : l.all f = true := by
 rw [← List.take_append_drop k l, List.all_append, h1, h2]; rfl
noncomputable abbrev ckP (p : Str × FD) : Bool := (recsOf QQ).any fun d => d.name == p.1 && ckF GN FN p.2 d
theorem tab0 : ((FN.zip FT).take 5).all ckP = true := by kernel_rfl
theorem tab1 : (((FN.zip FT).drop 5).take 5).all ckP = true := by kernel_rfl
theorem tab2 : (((FN.zip FT).drop 10).take 5).all ckP = true := by kernel_rfl
theorem tab3 : (((FN.zip FT).drop 15).take 5).all ckP = true := by kernel_rfl
theorem tab4 : (((FN.zip FT).drop 20).take 5).all ckP = true := by kernel_rfl
theorem tab5 : (((FN.zip FT).drop 25).take 5).all ckP = true := by kernel_rfl
theorem tab6 : (((FN.zip FT).drop 30).take 3).all ckP = true := by kernel_rfl
theorem tab7 : (((FN.zip FT).drop 33).take 2).all ckP = true := by kernel_rfl
theorem tab8 : (((FN.zip FT).drop 35).take 2).all ckP = true := by kernel_rfl
theorem tab9 : ((FN.zip FT).drop 37).all ckP = true := by kernel_rfl
theorem tab_all : tabB GN FN FT (recsOf QQ) = true := by
 refine all_two 5 tab0 ?_
 refine all_two 5 tab1 ?_
 rw [List.drop_drop]
 refine all_two 5 tab2 ?_
 rw [List.drop_drop]
 refine all_two 5 tab3 ?_
 rw [List.drop_drop]
 refine all_two 5 tab4 ?_
 rw [List.drop_drop]
 refine all_two 5 tab5 ?_
 rw [List.drop_drop]
 refine all_two 3 tab6 ?_
 rw [List.drop_drop]
 refine all_two 2 tab7 ?_
 rw [List.drop_drop]
 refine all_two 2 tab8 ?_
 rw [List.drop_drop]
 exact tab9
end Holk
theorem PySem.Challenge.cw_sx_r026_1_holds : PySem.Challenge.rw_sx_r026_1.Holds := by
 w_on
 refine holds_law Holk.said0 fun said => ?_
 refine holds_open (q := Holk.QQ) (loose := []) (Xt := fun s => xlAt Holk.QQ [] s && recOk (RowW.records Holk.LL.row.toRowW) s) (XP := XL Holk.QQ []) (Yf := Hook.obs Holk.HK) (Ya := Hook.val Holk.HK) (YP := Hook.says Holk.HK) (N := 3146) Holk.left0 (Hook.of Holk.HK) (Hook.keeps Holk.HK) (fun s e => xl_of s (Bool.and_eq_true_iff.mp e).1) XL.keeps (by rfl) (by rfl) (by rfl) (fun s e => recFacts_of (Bool.and_eq_true_iff.mp e).2) (by rfl) said (by kernel_rfl) ⟨rfl, rfl, rfl, rfl, rfl, by decide +kernel⟩ ?hw ?hc
 case hw => w_witness2
 case hc =>
  intro w s₀ s₁ mg mb G Y fa o pm cd doc dV kV ho hd hcd hD hmg hg args vals as hpre hlay hrd hwl hlo
  obtain ⟨K, KX, hck⟩ := Y
  refine Ground.open G ?_
  intro T B D TE TW
  clear ho hd hcd hD
  wrow_args hpre hlay hrd hwl hlo
  rename_i l hs1 hlay0 hL1 hr1 hl2 as4 as3 la vs as0 hL ra hwell r0 hI hr0 hc1 hc2
  obtain ⟨⟨⟨⟨⟨⟨⟨n1, n2⟩, n3⟩, n4⟩, n5⟩, n6⟩, n7⟩, n8⟩ := Holk.check_parts hck
  have hB := Holk.base_of (prog := Challenge.rw_sx_r026_1.row.prog) (w := w) (G := Holk.G) (GN := Holk.GN) (FN := Holk.FN) (FT := Holk.FT) KX T (by decide +kernel) n1 n2 n3 n4 n5 n6 n7 n8
  have hF := Holk.funs_of (prog := Challenge.rw_sx_r026_1.row.prog) (w := w) (G := Holk.G) (GN := Holk.GN) (FN := Holk.FN) (FT := Holk.FT) T rfl Holk.tab_all
  have hlist : s₁.heap.get? la = some (Holk.lstO vs 0) := by
   cases hwell with
   | list h1 h2 =>
    obtain ⟨ob, hob, hcl, n, hdt⟩ := hL
    rw [h1] at hob
    cases hob
    cases hdt
    exact h1
  refine Holk.finish (name := "law") (f := 39) hB hF rfl hmg hlist hI (fun σ => Holk.law_true l (by first | assumption | omega | simp_all) σ) fun h' k hk => ?_
  refine GoodW.toG ⟨.inl ⟨_, .bool true, [], rfl, raisesW_false ?_, .bool true, ?_, ?_⟩, hk, rfl, hg⟩
  ·wrow_none_raised
  ·wrow_post
  ·intro _; exact ⟨List.nodup_nil, fun a h => nomatch h⟩